/- Lemmas for the proof of the law; no condition. -/
import Derived.Test.YtcjnjifdphcijaaGreatDoorKF
set_option maxHeartbeats 2000000
set_option linter.unusedVariables false
set_option maxHeartbeats 2000000
set_option linter.unusedSimpArgs false
open Go.Proofs.Tryz renaming prog -> xT
open List renaming replicate -> qg
open Nat renaming add_comm -> vT
open Go.Value renaming bool -> xN, int -> xJ, pointer -> xL, slice -> xK
open Go.IntKind renaming i64 -> xP, wrap -> qe
set_option maxRecDepth 100000
open Option renaming some -> dB, none -> et
open List renaming length -> hY
open Go.Qw.cN renaming two -> u7, n -> u9, inn -> v1, loop -> v2, join -> v6, tn -> v7, lp -> wj, jn -> ws
namespace Go.Qw
open Go.Proofs
variable {B:av} {h0 h:Heap} {As:List HP} {a:Addr} {offs:Int} {da:List bD} {w:Pow} {ds:aD} {m:ak}
section
variable {pw:Addr}
theorem adw(H:aa B h0 h (bu a pw da offs w ds m::As)):∃x,fM (aM x) da ds/\aa B h0 h (gC bi pw da ds::ce 118 pw w::aj a 127 (bS (aM x) pw offs da)::bI x m::As):=by obtain⟨x,H⟩:=gc H;obtain⟨ok,H⟩:=aa.aas H;exact⟨x,ok,H⟩
end
variable {b:Addr} {D:aD} {xb xs:bh}
section
variable {pw:Addr}
theorem aaQ{ds:aD}(ok:mI da ds)(i:hY da=64)(g:hY ds=64)(h:∀k,k∉m.drives->aH ds k=et):gj (mT m) da=da:=by
 refine List.ext_getElem? λj=>?_;by_cases f:j<64
 .rw[px _ _ _ f];have c:da[j]?=dB da[j]:=qc ii;have e:da.getD j et=da[j]:=by rw[List.getD_eq_getElem?_getD,c];rfl
  rw[c,e];split
  .rfl
  .rename_i d;have a:=h (j:Int) (by unfold mT at d;simpa using d);have b:ds[j]?=dB ds[j]:=qc ii;unfold aH at a;rw[f8 ii,qj,b]at a;have a:ds[j]=et:=a;rw[a]at b;have:=ok.uX b;rw[c]at this;injection this with this
   rw[this]
 .rw[qJ (by rw[AX];omega),qJ ii]
end
theorem bQ.aiT{h:Heap}{a:Addr}{e:TypeId}{pre:aT}{l:List bD}(b:bQ h a e (pre++l.map .pointer))(d:Nat):Rd h ⟨dB (a.add pre.length),hY l,d⟩ 1 mA l:=by
 refine⟨hZ,λi x f=>⟨a.block,hY pre,?_,b.lt,?_⟩⟩
 .rw[b.addr,add_eq,zY]
 .have c:cellOf h (a.add (hY pre+i))=dB (.pointer x):=b.cell (by rw[List.getElem?_append_right ii,Nat.add_sub_cancel_left,qO,f];rfl);rw[b.addr,add_eq,zY]at c;rw[wx];exact⟨c,x7⟩
variable {d:ba} {q:bD}
section
variable {pw:Addr}
theorem MY(s:Sl)(l:az)(i:Nat)(h:Heap)(a:Rd h s 1 aw l):ai xT 69 #[s,xJ xP i] h λv h'=>(∃n:Int,v=xJ xP n)/\h'=h:=by
 refine ts Tryz.func69 ?_;have c:=a.len;refine af (λe=>⟨⟨0,hZ⟩,hZ⟩) λe=>?_;have b:i<hY l:=ii
 exact a.bo i hZ b l[i] hZ ⟨⟨_,hZ⟩,hZ⟩
theorem NA(keep a:Int)(h:Heap):ai xT 68 #[xL et,xJ xP keep,xJ xP a] h λv h'=>v=.tuple #[]/\h'=h:=by refine ts Tryz.func68 ?_ (v7 (v7 (u7 (v6 [] [(1,2),(7,9),(21,104)] (v1 (ws [(74,ka)] [(74,83)] (v7 (v7 (v7 (v7 (v7 (u7 (v6 [(7,cM)] [(7,9),(36,70)] (ws [(45,ka)] [(36,46)] u9)) u9))))))))) u9)));exact aY (λ_=>⟨hZ,hZ⟩) λe=>jj
theorem Xo(keep f:Int)(q:Qt d)(H:aa B h0 h (jN pw b d::As)):ai xT 68 #[xL (dB b),xJ xP keep,xJ xP f] h λv h'=>v=.tuple #[]/\aa B h0 h' (jN pw b d::As):=by
 refine ts Tryz.func68 ?_ (v7 (v7 (u7 (v6 [] [(1,2),(7,9),(21,104)] (v1 (ws [(74,ka)] [(74,83)] (v7 (v7 (v7 (v7 (v7 (u7 (v6 [(7,cM)] [(7,9),(36,70)] (ws [(45,ka)] [(36,46)] u9)) u9))))))))) u9)));obtain⟨ok,s,t,i⟩:=H.pT;obtain⟨m,w,j⟩:=q;have c:=i.box 0 hZ;obtain⟨G,F⟩:=aa.tj (i.aJ 3 [1]);have p:=ok.len;have z:=ok.room;have A:∀k:Int,(if(0:Int)<(if(0:Int)>k then(0:Int)else k)then(0:Int)else(if(0:Int)>k then(0:Int)else k))=0:=by intro k;split<;>(try split)<;>omega
 have o:qe xP (s.len:Int)=(s.len:Int):=ag _;have a:(xJ xP d.wait:Value)=xJ xP 0:=by rw[m];rfl
 refine aY (λe=>jj) λ_=>⟨b,hZ,s,c.cell hZ,b,hZ,0,c.cell (by rw[<-a];rfl),?_⟩
 simp only[Int.sub_zero,o];refine bB (λ_ h'=>aa B h0 h' (aj b 155 (ft pw d s t)::gg s d.l::gg t d.laid::As)) ?_ ?_
 .refine aG ⟨b,hZ,d.has,c.cell hZ,?_⟩;rw[j];refine aY (λe=>jj) λ_=>aY (λe=>jj) λ_=>⟨b,hZ,false,c.cell (by rw[<-j];rfl),aY (λe=>jj) λ_=>?_⟩
  refine⟨b,hZ,0,c.cell (by rw[<-a];rfl),b,hZ,s,c.cell hZ,?_⟩;simp only[A,Int.add_zero,o];refine⟨⟨ii,ii⟩,aG (aG ⟨b,hZ,0,c.cell (by rw[<-a];rfl),?_⟩)⟩;refine af (λe=>absurd e i0) λ_=>aY (λe=>jj) λ_=>?_;rw[qj];exact⟨b,hZ,i.store ae 0 hZ hZ 2 [s] hZ hZ hZ l5 λr g=>g⟩
 rintro _ r g;refine⟨b,hZ,g.store ae 0 hZ hZ 3 [xJ xP 0] hZ hZ hZ l5 λh3 u=>?_⟩;refine⟨b,hZ,u.store ae 0 hZ hZ 4 [xK et 0 0] hZ hZ hZ l5 λI x=>?_⟩;refine⟨b,hZ,x.store ae 0 hZ hZ 5 [xN false] hZ hZ hZ l5 λE y=>⟨x7,?_⟩⟩;have D:ft pw d s ⟨et,0,0⟩=[xL (dB pw),xJ xP d.room,s,xJ xP 0,xK et 0 0,xN false,xN d.lost]:=by simp only[ft,m,j];rfl
 refine aa.BR (s:=s) (b:=⟨et,0,0⟩) ok ?_;rw[D,w];exact(y.Bf 34 5 1 aB).aJ 4 [1,2,0]
theorem aaR(slot cells:Int)(d:bc m=true)(b:slot∉m.drives∨slot∈aR ds m.drives)(H:aa B h0 h (bu a pw da offs w ds m::As)):
  ai xT 22 #[xL (dB a),xJ xP slot,xJ xP cells] h λv h'=>(∃e:Int,v=xJ xP e)/\Sp h h' []:=by
 obtain⟨x,H⟩:=gc H;exact(Qe slot cells x m (H.at 1 hZ) (im d) H (.inr (.inr b))).mono λ_ _ ⟨c,R⟩=>⟨⟨_,c⟩,R⟩
theorem Tp(y:rq)(o:y.1=8)(p:bc m=true)(r:∀k∈m.drives,k∈aR ds m.drives)(H:aa B h0 h (bu a pw da offs w ds m::aj b 60 (eZ q (dB a))::As)):
  ai xT 9 #[xL (dB b),oc y] h λv h'=>(∃Y:Bl,v=mR Y)/\aa B h0 h' (bu a pw da offs w ds m::aj b 60 (eZ q (dB a))::As):=by
 refine ts Tryz.func9 ?_ (v7 (v7 (u7 (v6 [] [(8,101)] (v7 (v1 (ws [(11,ka)] [(11,17)] u9)))) u9))) (args:=[(dB b),y]);refine H.boxed λx s f=>?_;have f:=f.aZ;refine f.alloc ae hZ λz u c=>aY (λe=>jj) λ_=>?_;have c:=c.aZ.aJ 4 [2,3,1,0];refine aG ⟨y.1,(c.box 2 hZ).cell0 hZ,aG ?_⟩;rw[o];refine aX (λe=>absurd e i0) λ_=>aX (λe=>absurd e i0) λ_=>aX (λe=>absurd e i0) λ_=>aX (λe=>absurd e i0) λ_=>?_;refine aY (λe=>jj) λ_=>?_;refine aX (λe=>absurd e i0) λ_=>aX (λe=>absurd e i0) λ_=>aX (λ_=>?_) λe=>absurd hZ e;refine⟨b,hZ,dB a,(c.box 1 hZ).cell hZ,y.2.2.2.1,(c.box 2 hZ).cell hZ,y.2.2.2.2.1,(c.box 2 hZ).cell hZ,(aaR y.2.2.2.1 y.2.2.2.2.1 p ?_ c).mono ?_⟩
 .by_cases d:y.2.2.2.1∈m.drives
  .exact .inr (r _ d)
  .exact .inl d
 rintro _ h3 ⟨⟨e,rfl⟩,l⟩;have j:=c.up l.ac;refine⟨e,hZ,x7,j.fv ae 3 hZ hZ [xJ xP e] hZ hZ hZ i6 λA g=>⟨x7,?_⟩⟩;refine⟨dw e,(g.box 3 hZ).aA (gA (dw e)) hZ,g.storeAll ae 3 hZ hZ (gA (dw e)) hZ hZ hZ hZ λt i=>?_⟩;exact⟨dw e,(i.box 3 hZ).aA (gA (dw e)) hZ,⟨_,hZ⟩,i.aJ 4 [0,1]⟩
theorem agk{i:Nat}(d:i<64)(c:hY da=64){p s:bD}:(kC p s (da.take i++qg (64-i) et)).set (2+i) (.pointer da[i])=kC p s (da.take (i+1)++qg (64-(i+1)) et):=by
 have b:hY (da.take i)=i:=by rw[List.length_take];omega
 have a:qg (64-i) (et:bD)=et::qg (64-(i+1)) et:=by rw[show 64-i=(64-(i+1))+1 by omega];rfl
 rw[vT 2 i];show Value.pointer p::Value.pointer s::((da.take i++qg (64-i) et).map Value.pointer).set i (.pointer da[i])=_;rw[<-List.map_set,a,List.set_append_right _ _ ii,b,Nat.sub_self,List.set_cons_zero,List.take_succ_eq_append_getElem ii,List.append_assoc];rfl
theorem aaS(y:rq)(Y tz:az){D:aD}(hK:St B h0 As λh=>Rd h y.2.2.2.2.2.2.2.1 1 aw Y)(hT:St B h0 As λh=>Rd h y.2.2.2.2.2.2.2.2 1 aw tz)(hN:y.2.2.2.2.1<=0)(J:∀k d,aH ds k=dB d->Qt d)(hm:bc m=true)(N:hY ds=64)(S:ja ds=dB m)(hj:∀d,dB d∈ds->hY (gh d.l)<20)
  (ho:opens m m.drives Pow.new ds=(0,Pow.new,D)) (hp:gj (mT m) D=D) (R:∀k,k∉m.drives->aH ds k=et) (H:aa B h0 h (bu a pw da 0 Pow.new ds m::aj b 60 (eZ (dB pw) (dB a))::As)):
  ai xT 27 #[xL (dB b),oc y] h λv h'=>v=xJ xP 0/\∃A,aa B h0 h' (bu A pw da 0 Pow.new D m::aj b 60 (kC (dB pw) (dB A) da)::As):=by
 refine ts Tryz.func27 ?_ (v7 (u7 (v7 (v1 (v2 [(8,aU)] [(5,6),(8,35)] (v7 (v7 (u7 (v1 (v7 (ws [] [(11,19)] u9))) u9)))))) (v7 (ws [] [(40,51)] u9)))) [(4,(.l [0,1,2,3,5,6,4,7,8])),(5,(.l [0,1,2,3,4,5,6,7,8,10,11,12,9,13,14]))] (args:=[(dB b),y]);refine H.boxed λz I r=>?_;have r:=r.aZ;obtain⟨x,ok,r⟩:=adw (r.aJ 3 [1,2,0]);have q:=ok.la;have r:aa B h0 I (gC bi pw da ds::ce 118 pw Pow.new::aj a 127 (bS (aM x) pw 0 da)::bI x m::aj b 60 (kC (dB pw) (dB a) (da.take 0++qg (64-0) et))::aj z 37 (MK y)::As):=r;refine aq (λi:Nat=>(i:Int)) (λi h'=>i<=64/\aa B h0 h' (gC bi pw da ds::ce 118 pw Pow.new::aj a 127 (bS (aM x) pw 0 da)::bI x m::aj b 60 (kC (dB pw) (dB a) (da.take i++qg (64-i) et))::aj z 37 (MK y)::As)) (λi=>64-i) 0 hZ ⟨ii,r⟩ ?_;rintro i T ⟨V,w⟩
 try dsimp only
 refine af (λe=>?_) λe=>?_
 .have K:i<64:=ii
  refine aG ⟨b,hZ,(SH (i:Int) (w.box 4 hZ) ok (w.box 2 hZ)).xa ?_⟩;have P:gH da (i:Int)=da[i]:=by unfold gH;rw[f8 ii,qj,qc ii];rfl
  have Z:(b.add 2).add i=b.add (2+i):=by unfold Addr.add;simp[Nat.add_assoc]
  rw[P];refine⟨da[i],hZ,x7,⟨ii,ii⟩,?_⟩;rw[qj,wx,Z];refine w.storeAt ae 4 hZ hZ hZ hZ hZ i5 λh3 f=>⟨x7,?_⟩
  rw[agk K q]at f;have u:cellOf h3 (b.add (2+i))=dB (.pointer da[i]):=(f.box 4 hZ).cell (by
   rw[vT 2 i];show((da.take (i+1)++qg (64-(i+1)) et).map Value.pointer)[i]?=_;rw[qO,List.getElem?_append_left i5,List.getElem?_take_of_lt ii,qc ii];rfl)
  have s:cellOf h3 ((b.add 2).add i)=dB (.pointer da[i]):=by rw[Z];exact u
  have k7:=(f.box 5 hZ).cell (j:=7) (v:=xK y.2.2.2.2.2.2.2.1.ptr y.2.2.2.2.2.2.2.1.len y.2.2.2.2.2.2.2.1.cap) hZ;have X:=(f.box 5 hZ).cell (j:=8) (v:=xK y.2.2.2.2.2.2.2.2.ptr y.2.2.2.2.2.2.2.2.len y.2.2.2.2.2.2.2.2.cap) hZ;refine⟨b,hZ,⟨ii,ii⟩,da[i],s,y.2.2.2.2.2.2.2.1,k7,y.2.2.2.2.2.2.2.2,X,(MY _ Y i h3 (hK.at [_,_,_,_,_,_] f)).mono ?_⟩;rintro _ _ ⟨⟨n1,rfl⟩,rfl⟩;refine⟨n1,hZ,⟨X,s,x7⟩,(MY _ tz i _ (hT.at [_,_,_,_,_,_] f)).mono ?_⟩;rintro _ _ ⟨⟨n2,rfl⟩,rfl⟩;refine⟨n2,hZ,⟨s,x7⟩,?_⟩;have fin:∀{h':Heap},aa B h0 h' (gC bi pw da ds::ce 118 pw Pow.new::aj a 127 (bS (aM x) pw 0 da)::bI x m::aj b 60 (kC (dB pw) (dB a) (da.take (i+1)++qg (64-(i+1)) et))::aj z 37 (MK y)::As)->_:=λ{h'} H'=>
   (⟨i+1,i9,⟨ii,H'⟩,ii⟩:∃t:Nat,qe xP ((i:Int)+1)=(t:Int)/\(t<=64/\aa B h0 h' (gC bi pw da ds::ce 118 pw Pow.new::aj a 127 (bS (aM x) pw 0 da)::bI x m::aj b 60 (kC (dB pw) (dB a) (da.take t++qg (64-t) et))::aj z 37 (MK y)::As))/\64-t<64-i)
  have Q:=f.WW;obtain⟨M,o⟩:∃M,ds[i]?=dB M:=⟨_,qc ii⟩
  have F:da[i]?=dB da[i]:=qc ii;cases M with
  |none=>
   have:=Q.uX o;rw[F]at this;injection this with this
   rw[this];refine(NA n1 n2 _).xa ⟨(),hZ,x7,fin f⟩
  |some d=>
   obtain⟨c,U,E⟩:=f.Rb o;have p:=U;rw[F]at p;injection p with p
   rw[p];have hd:aH ds (i:Int)=dB d:=by unfold aH;rw[f8 ii,qj,o];rfl
   refine(Xo (pw:=pw) n1 n2 (J _ d hd) E).xc λh5 L=>?_;have W:=aa.aar (k:=bi) (pw:=pw) U L;have es:ds.set i (dB d)=ds:=by
    obtain⟨I,T⟩:=List.getElem?_eq_some_iff.1 o
    conv=>lhs;rw[<-T]
    exact List.set_getElem_self I
   rw[es]at W;exact⟨(),hZ,x7,fin W⟩
 have V:i=64:=ii
 subst V;have eL:da.take 64++qg (64-64) et=da:=by rw[List.take_of_length_le ii];simp
 rw[eL]at w;refine⟨b,hZ,dB pw,(w.box 4 hZ).cell0 hZ,(Xn (w.aJ 6 [1,0,4,5])).xc λh3 f=>?_⟩;have f:aa B h0 h3 (gC bi pw da ds::ce 118 pw Pow.new::aj b 60 (kC (dB pw) (dB a) da)::aj z 37 (MK y)::As):=f.aJ 4 [1,0,2,3];refine⟨(),hZ,aG ⟨y.2.2.2.2.1,(f.box 3 hZ).cell hZ,af (λe=>absurd e ii) λ_=>?_⟩⟩;refine⟨b,hZ,dB pw,(f.box 2 hZ).cell0 hZ,b,hZ,?_⟩;have e2:(⟨dB (b.add 2),64,64⟩:Sl)=⟨dB (b.add [Value.pointer (dB pw),Value.pointer (dB a)].length),hY da,64⟩:=by rw[q];rfl
 refine(aau (As:=aj b 60 (kC (dB pw) (dB a) da)::aj z 37 (MK y)::As) ⟨dB (b.add 2),64,64⟩ (St.ey 0 hZ λh' J=>by rw[e2];exact bQ.aiT J.1 64) ii (qm _) hj (λm' g=>by rw[S]at g;injection g with g;rw[<-g];exact hm) f).mono ?_;rintro _ h4 ⟨_,G⟩;have G:=G m S;rw[ho]at G;obtain⟨A,rfl,E⟩:=G.2 rfl;dsimp only at E;have O:gj (mT m) da=da:=aaQ (aa.WW f) q N R;rw[hp,O]at E;refine⟨(dB A,0),hZ,x7,b,hZ,E.store ae 1 hZ hZ 1 [xL (dB A)] hZ hZ hZ i6 λh5 L=>⟨hZ,A,?_⟩⟩;exact L.aJ 3 [0,1]
theorem Tq(y:rq)(G:y.1=13)(r tz:az){D:aD}(z:St B h0 As λh=>Rd h y.2.2.2.2.2.2.2.1 1 aw r)(A:St B h0 As λh=>Rd h y.2.2.2.2.2.2.2.2 1 aw tz)(w:y.2.2.2.2.1<=0)(t:∀k d,aH ds k=dB d->Qt d)(I:bc m=true)(j:hY ds=64)(u:ja ds=dB m)(s:∀d,dB d∈ds->hY (gh d.l)<20)
  (F:opens m m.drives Pow.new ds=(0,Pow.new,D)) (E:gj (mT m) D=D) (o:∀k,k∉m.drives->aH ds k=et) (H:aa B h0 h (bu a pw da 0 Pow.new ds m::aj b 60 (eZ (dB pw) (dB a))::As)):
  ai xT 9 #[xL (dB b),oc y] h λv h'=>v=mR (dw 0)/\∃g,aa B h0 h' (bu g pw da 0 Pow.new D m::aj b 60 (kC (dB pw) (dB g) da)::As):=by
 refine ts Tryz.func9 ?_ (v7 (v7 (u7 (v6 [] [(8,101)] (v7 (v1 (ws [(11,ka)] [(11,17)] u9)))) u9))) (args:=[(dB b),y]);refine H.boxed λM J i=>?_;have i:=i.aZ;refine i.alloc ae hZ λg L f=>aY (λe=>jj) λ_=>?_;have f:=f.aZ.aJ 4 [2,3,1,0];refine aG ⟨y.1,(f.box 2 hZ).cell0 hZ,aG ?_⟩;rw[G];refine aX (λe=>absurd e i0) λ_=>aX (λe=>absurd e i0) λ_=>aX (λe=>absurd e i0) λ_=>aX (λe=>absurd e i0) λ_=>?_;refine aY (λe=>jj) λ_=>?_;refine aX (λe=>absurd e i0) λ_=>aX (λe=>absurd e i0) λ_=>aX (λe=>absurd e i0) λ_=>aX (λe=>absurd e i0) λ_=>aX (λe=>absurd e i0) λ_=>aX (λe=>absurd e i0) λ_=>aX (λe=>absurd e i0) λ_=>aX (λ_=>?_) λe=>absurd hZ e;refine⟨y,(f.box 2 hZ).aA _ hZ,(aaS y r tz z.cons.cons A.cons.cons w t I j u s F E o f).xc λh3 ⟨c,x⟩=>?_⟩;refine⟨0,hZ,x.fv ae 3 hZ hZ [xJ xP 0] hZ hZ hZ i6 λN p=>?_⟩;refine⟨dw 0,(p.box 3 hZ).aA (gA (dw 0)) hZ,p.storeAll ae 3 hZ hZ (gA (dw 0)) hZ hZ hZ hZ λK q=>?_⟩;exact⟨dw 0,(q.box 3 hZ).aA (gA (dw 0)) hZ,hZ,c,q.aJ 4 [0,1]⟩
end
section
variable {pw:Addr}
end
theorem Ro{p q:av}(a b:Sl)(c d:List ByteArray)(h:Heap)(o:Qw.Seq h p a 1 od c)(r:Qw.Seq h q b 1 od d)(x:hY c<=2^30):
  ai xT 16 #[a,b] h λv h'=>(c=d->v=xN true)/\h'=h:=by
 refine ts Tryz.func16 ?_ (v7 (v7 (wj [(13,aU)] [(4,6),(13,26)])));have j:=o.len;have k:=r.len;refine bA (λe=>⟨λf=>absurd (by rw[j,k,f]) e,hZ⟩) λe=>?_;refine aq (λi:Nat=>(i:Int)) (λi h'=>i<=hY c/\h'=h) (λi=>hY c-i) 0 hZ ⟨ii,hZ⟩ ?_;rintro i t ⟨u,rfl⟩;refine af (λm=>?_) λm=>⟨λ_=>rfl,hZ⟩
 have g:i<hY c:=by have w:(i:Int)<(a.len:Int):=m;omega
 have l:i<hY d:=ii
 refine o.bo i hZ g c[i] hZ ?_;refine r.bo i hZ l d[i] hZ ?_;refine aW (λf=>⟨λs=>?_,hZ⟩) λf=>⟨i+1,i9,⟨ii,hZ⟩,ii⟩
 subst s;simp at f
section
variable {pw:Addr}
end
section
variable {pw:Addr}
theorem aaT{i:Nat}{p:Pm}{C:Int->aL}(y:rq)(M:Mv)(I:Ab i p m C ds)(x:oU p M)(X:p.1*p.2.2<=54)(D:y.1=M.kind)(E:y.2.1=M.name)(S:y.2.2.2.1=M.slot)(F:y.2.2.2.2.1=M.n)(N:y.2.2.1.len<=y.2.2.1.cap)(V:St B h0 As λh=>Rd h y.2.2.1 1 aB M.data)
  (Z:y.1≠7) (n9:y.1≠9) (O:y.1≠11) (H:aa B h0 h (bu a pw da 0 Pow.new ds m::aj b 60 (eZ q (dB a))::As)):
  ai xT 9 #[xL (dB b),oc y] h λv h'=>(∃Y:Bl,v=mR Y)/\∃o ds' j A,Ab (i+1) p j A ds'/\aa B h0 h' (bu a pw o 0 Pow.new ds' j::aj b 60 (eZ q (dB a))::As):=by
 have l:=I.os.wt.may;have w:=x;unfold oU at w;rw[<-D]at w;by_cases G:y.1=1
 .obtain⟨n1,n2⟩:=oU.put x (D.symm.trans G);refine(WE y G M.data V N (by rw[E];have:=adc _ n1;omega) l ii H).mono ?_;rw[E];rintro _ g ⟨f,c⟩;obtain⟨e,j,A,ds',u,s⟩:=I.put n1 n2 λk d t=>((jJ c).2 k d t).1;rw[u]at c;exact⟨⟨_,f⟩,da,ds',j,A,s,c⟩
 by_cases U:y.1=2
 .refine(Dp y U l H).mono ?_;rintro _ g ⟨r,f,R⟩;exact⟨⟨_,f⟩,da,ds,m,C,I.more,H.up R.ac⟩
 by_cases W:y.1=3
 .refine(Xl y W l H).mono ?_;rintro _ g ⟨f,c⟩;obtain⟨e,j,ds',u,s⟩:=I.del y.2.1 λk d t=>((jJ c).2 k d t).1;rw[u]at c;exact⟨⟨_,f⟩,da,ds',j,C,s,c⟩
 by_cases P:y.1=4
 .refine(Ah y P l i0 H).mono ?_;rintro _ g ⟨r,f,R⟩;exact⟨⟨_,f⟩,da,ds,m,C,I.more,H.up R.ac⟩
 by_cases Q:y.1=5
 .refine(SK y Q l H).mono ?_;rintro _ g ⟨r,f,R⟩;exact⟨⟨_,f⟩,da,ds,m,C,I.more,H.up R.ac⟩
 by_cases L:y.1=6
 .refine(Xm y L l H).mono ?_;rintro _ g ⟨f,o,c⟩;obtain⟨e,j,ds',u,s⟩:=I.add (slot:=y.2.2.2.1) (cells:=y.2.2.2.2.1) (by rw[S];omega) (by rw[F];omega) λk d t=>((jJ c).2 k d t).1;rw[u]at c;exact⟨⟨_,f⟩,o,ds',j,C,s,c⟩
 by_cases T:y.1=8
 .refine(Tp y T l (λk x=>?_) H).mono ?_
  .obtain⟨d,g,K,_⟩:=I.os.full.live k x;exact se.2 ⟨x,d,g,K⟩
  rintro _ g ⟨f,c⟩;exact⟨f,da,ds,m,C,I.more,c⟩
 have z:y.1=10:=ii
 refine(Rn y z l (by rw[F];omega) H).mono ?_;rintro _ g ⟨f,c⟩;obtain⟨J,s⟩:=I.aiS (λk d t=>by have:=(jJ H).2 k d t;exact⟨this.1,this.2.1⟩) y.2.2.2.2.1 y.2.2.2.2.2.1;rw[J]at c;exact⟨f,da,_,m,C,s.more,c⟩
end
theorem Is(c0:Sl)(l:az)(s1:Sl)(l1:az)(s2:Sl)(l2:az)(s3:Sl)(l3:az)(n:Int)(h:Heap)(hs:Rd h c0 1 aw l)(a4:Rd h s1 1 aw l1)(bk:Rd h s2 1 aw l2)(a5:Rd h s3 1 aw l3):
  ai xT 4 #[c0,s1,s2,s3,xJ xP n] h λv h'=>v=xN true/\aS (λb=>b<h.size) h h':=by
 refine ts Tryz.func4 ?_ (v7 (ws [] [(10,11),(26,35)] (v7 (v7 (ws [] [(10,11),(48,54)] (u7 (v7 (v1 (v2 [(58,aU)] [(17,18),(58,79)] u9))) (v7 (v7 (u7 (v7 (v1 (v2 [(19,cM),(85,aU)] [(10,11),(19,20),(21,23),(85,102)] u9))) (ws [] [(10,11),(102,121)] (wj [(123,aU)] [(10,11),(23,26),(123,146)])))))))))));have fin:∀{h':Heap} {As:List HP},Sp h h' As->oy xT 13 #[] (.one (.sc .bool)) h' λr L=>Value.bool r=xN true/\aS (λb=>b<h.size) h L:=λ{h' As} O=>by
  refine(QG h').xc λb9 R=>⟨true,hZ,hZ,(O.up R.ac).ac⟩
 refine aG (af (λ_=>fin (Sp.refl h)) λ_=>af (λ_=>fin (Sp.refl h)) λ_=>?_);refine(SG c0 l h hs).x0 λr h1 R1=>⟨(kF l,WC l,r),hZ,R1.alloc ae hZ λa2 h2 H2=>?_⟩;refine H2.storeAll ae 1 hZ hZ [xJ xP (kF l).1,xJ xP (kF l).2.1,xJ xP (kF l).2.2] hZ hZ hZ hZ λh3 H3=>?_;obtain⟨p,B⟩:=x6 (kF l)
 obtain⟨E,hE⟩:=x6 (WC l)
 have hp:bK p=true:=by rw[B];exact Zm _ _ _
 have ad:p.1<=6/\p.2.2<=9:=by rw[B];unfold kF Cb;(try dsimp only);omega
 have cf:=(bP p).1 hp;have b2:0<=E/\E<=6:=by rw[hE];unfold WC;omega
 rw[<-B,<-hE];rw[<-B]at H3;have H3:=H3.bt [1];have bl:∀x∈[(250:Int),250,250],1<=x/\x<=512:=i0
 have bd:∀x∈[(250:Int),250,250],2<=x/\x<=512:=i0
 obtain⟨e0,ab⟩:=afV (extra:=E) hp ii (show 1<=[(250:Int),250,250].length/\[(250:Int),250,250].length<=24 by decide) bl;have b4:p.1*p.2.2<=6*9:=Int.mul_le_mul ad.1 ad.2 ii ii;refine⟨p,(H3.box 0 hZ).aA _ hZ,H3.lit ae aw gb hZ [250,250,250] hZ (show 3*1<=2^20 by decide) hZ λv4 h4 H4=>?_⟩;refine(QI p E v4 [250,250,250] (As:=[aj a2 25 [xJ xP p.1,xJ xP p.2.1,xJ xP p.2.2],an 3 v4 1 aw [250,250,250]]) (St.ey 1 hZ λh' hq=>hq.1.seq (λ_=>rfl) hq.2) i0 e0 H4).mono ?_;rintro _ h5 ⟨b,a,pw,da,D0,rfl,f2,f3,H5⟩;have I0:Ab 0 p (cx p E [250,250,250]) (λ_=>[]) D0:=by
  obtain⟨S0,F0,_⟩:=ZW (m:=cx p E [250,250,250]) rfl e0 i0 f2 f3 λ_=>[];refine⟨⟨Wt.fresh e0 ab i0 bd f2 f3,S0,F0,by rw[show(cx p E [250,250,250]).drives=bm [250,250,250] [(250:Int),250,250].length from hZ,ab];decide⟩,λk d y=>?_⟩;rw[f3]at y;split at y
  .injection y with y;rw[<-y];exact⟨hZ,hZ,hZ⟩
  .cases y
 refine⟨(dB b,0),hZ,aG (bA (λe=>absurd hZ e) λ_=>aY (λe=>jj) λ_=>?_)⟩;refine⟨p,(H5.box 2 hZ).aA _ hZ,?_⟩;refine(WI p s1 l1 8 h5 hp (a4.up H5.ac) i0).mono ?_;rintro _ h6 ⟨r,u,rfl,hM,b5,R6⟩;obtain⟨rs,R6⟩:=R6.Hr 0 rfl λ_=>rfl;have H6:=H5.comp R6;have H6:=H6.bt [0,1,4];refine⟨r,hZ,?_⟩;have cc:r.len=u.length:=by rw[(H6.eC 2 hZ).1.len,(H6.eC 2 hZ).2.1]
 refine aq (λi:Nat=>(i:Int)) (λi h'=>i<=u.length/\∃da ds m C,Ab i p m C ds/\Sp h h' [bu a pw da 0 Pow.new ds m,aj b 60 (eZ (dB pw) (dB a)),dI nT 9 rx r rs u]) (λi=>u.length-i) 0 hZ ⟨ii,da,D0,_,_,I0,H6⟩ ?_;rintro i h7 ⟨hi,da,ds,m,C,I,P⟩
 try dsimp only
 have U:=I.os.wt.may;refine af (λe=>?_) λe=>?_
 .have z:i<u.length:=ii
  have W:=P.eC 2 hZ;have ax:i<rs.length:=by rw[W.2.1];exact z
  have next:∀{h':Heap} {H:List bD} {ds':aD} {m':ak} {C':Int->aL} {al:List HP},Ab (i+1) p m' C' ds'->Sp h h' (bu a pw H 0 Pow.new ds' m'::aj b 60 (eZ (dB pw) (dB a))::dI nT 9 rx r rs u::al)->
    ∃t:Nat,(qe xP ((i:Int)+1):Int)=(t:Int)/\(t<=u.length/\∃da ds m C,Ab t p m C ds/\Sp h h' [bu a pw da 0 Pow.new ds m,aj b 60 (eZ (dB pw) (dB a)),dI nT 9 rx r rs u])/\u.length-t<u.length-i:=λ{h' H ds' m' C' al} I' O=>
   ⟨i+1,i9,⟨ii,H,ds',m',C',I',aa.Hs (As:=[_,_,_]) (O.aJ 3 [0,1,2])⟩,ii⟩
  refine W.1.de i hZ ax rs[i] hZ ?_;refine P.alloc ae hZ λa1 h8 H8=>?_;refine H8.storeAll ae 3 hZ hZ (rx rs[i]) hZ hZ hZ hZ λh9 g=>?_;have hb:=g.box 3 hZ;obtain⟨⟨k1,k2,k3,k4,k5,k6,kc⟩,kd,_,_⟩:=Fix.row (g.eC 2 rfl) z;have hk:oU p u[i]:=hM _ (qf z);refine⟨rs[i].1,hb.cell0 hZ,bA (λe1=>⟨rs[i].1,hb.cell0 hZ,bA (λe2=>⟨rs[i].1,hb.cell0 hZ,bA (λe3=>?_) λ_=>next I.more g⟩) λ_=>next I.more g⟩) λ_=>next I.more g⟩;refine⟨rs[i],hb.aA _ hZ,(aaT (As:=[dI nT 9 rx r rs u,aj a1 37 (rx rs[i])]) rs[i] u[i] I hk ii k1 k2 k3 k4 kc (St.ey (A:=dI nT 9 rx r rs u) 0 hZ λh' hq=>(Fix.row hq z).2.1) e3 e2 e1 g).mono ?_⟩;rintro _ ao ⟨⟨Y,rfl⟩,H,ds',m',C',I',Q⟩;exact⟨Y,hZ,next I' Q⟩
 have P:=P.bt [0,1];have ar:=λk d y=>((jJ P).2 k d y).1;obtain⟨M0,Hh⟩:=I.os.wt.hi;obtain⟨n1,n2,D,o1,o2,I2⟩:=(I.os.mono (show i<=9 by omega)).opened (qm _) ar;have bq:=I.os.wt.len;have en:ow m 0 Pow.new=m.objs.map Qw.cb.name:=by unfold ow;rfl
 obtain⟨N,hN⟩:=x6 (m.objs.map Qw.cb.name)
 have b1:N.length<=12:=by rw[hN,qu];exact((bU m).1 U).2.2.2.1
 obtain⟨G,hG⟩:∃G:ByteArray->aL,G=λx=>(jb m 0 Pow.new ds x).1:=⟨_,rfl⟩
 have ap:∀x∈N,jb m 0 Pow.new ds x=(G x,0)/\jb m 0 Pow.new D x=(G x,0)/\(G x).length<=2^40:=by
  rw[hN];intro x hx;obtain⟨e,V,rfl⟩:=List.mem_map.1 hx;have g1:jb m 0 Pow.new ds e.name=(C e.object,0):=by rw[(I.os.sto.get hZ e.name).1 e V hZ,f8 (I.os.full.can I.os.sto I.os.ne V)]
  have g2:jb m 0 Pow.new D e.name=(C e.object,0):=by rw[(I2.sto.get hZ e.name).1 e V hZ,f8 (I2.full.can I2.sto I2.ne V)]
  have Z:G e.name=C e.object:=by rw[hG];show(jb m 0 Pow.new ds e.name).1=_;rw[g1]
  refine⟨by rw[g1,Z],by rw[g2,Z],?_⟩;rw[Z];have q1:=(I.os.sto.ents e V).1;have q2:=(I.os.wt.ent e V).2;omega
 refine(Ah (4,nl,ck,0,0,0,0,ck,ck) hZ U i0 P).x0 λs h8 R8=>?_;rw[en,<-hN]at R8;have H8:=P.comp R8;have b0:s.len=N.length:=(H8.own 2 hZ).len;refine⟨(0,ck,s,0,0,0,ck,0),hZ,?_⟩;refine aq (λt:Sl×Nat=>(t.1,(t.2:Int))) (λt h'=>t.2<=N.length/\Sp h h' [bu a pw da 0 Pow.new ds m,aj b 60 (eZ (dB pw) (dB a)),an 9 s 1 od N,bV 34 t.1 1 bn (cz 1 aB) ((N.take t.2).map G)]) (λt=>N.length-t.2) (⟨et,0,0⟩,0) hZ ⟨zk _,by simpa using H8.th 34 1 bn (cz 1 aB)⟩ ?_;rintro⟨o,j⟩ h9 ⟨hj,g⟩;dsimp only at hj g⊢;refine af (λe=>?_) λe=>?_
 .have c:j<N.length:=ii
  obtain⟨g1,g2,Z⟩:=ap _ (qf c);refine(g.seq 2 hZ λ_=>rfl).bo j hZ c N[j] hZ ?_;refine(Dp (2,N[j],ck,0,0,0,0,ck,ck) hZ U g).mono ?_
  try dsimp only
  rw[g1];rintro _ ao ⟨T,rfl,a0⟩;have Q:=g.comp a0;refine⟨(0,T,ck,0,0,0,ck,0),hZ,Q.alloc ae hZ λb7 ay F=>?_⟩;refine F.storeAll ae 5 hZ hZ (gA (0,T,ck,0,0,0,ck,0)) hZ hZ hZ hZ λL f=>?_;refine⟨0,(f.box 5 hZ).cell0 hZ,bA (λe=>absurd hZ e) λ_=>⟨T,(f.box 5 hZ).cell hZ,?_⟩⟩;refine f.nH ae 3 4 i0 hZ hZ fF hZ i0 (λ_=>rfl) jH hZ i0 i5 λo' a6 S=>?_;refine⟨(o',j+1),i7,⟨c,?_⟩,i4⟩
  try dsimp only
  rw[aE _ _ c,List.map_append];exact S.bt [0,1,2,3]
 have ej:j=N.length:=ii
 subst ej;rw[List.take_length]at g;obtain⟨X,g⟩:=g.Hr 3 rfl λ_=>rfl;refine bB (λ(_:Unit) h'=>∃a2,Sp h h' [bu a2 pw da 0 Pow.new D m,aj b 60 (kC (dB pw) (dB a2) da),an 9 s 1 od N,dI (cz 1 aB) 1 bn o X (N.map G)]) ?_ ?_
 .refine(cK n 9 h9).xa ⟨_,hZ,?_⟩;have cl:=Int.emod_nonneg n (show(9:Int)≠0 by decide);have b6:=Int.emod_lt_of_pos n (show(0:Int)<9 by decide);refine(Tq (13,nl,ck,0,qe xP (0-n%9),0,0,s2,s3) hZ l2 l3 (D:=D) (As:=[an 9 s 1 od N,dI (cz 1 aB) 1 bn o X (N.map G)]) (λBs h' O=>bk.up O.ac) (λBs h' O=>a5.up O.ac) m7 I.q U bq n1 n2 o1 o2 (λk hk=>?_) g).mono ?_
  .cases y:aH ds k with
   |none=>rfl
   |some d=>exact absurd (Hh.at_ k d y) hk
  rintro _ ay ⟨rfl,a3,F⟩;refine⟨dw 0,hZ,bA (λe=>absurd hZ e) λ_=>?_⟩;refine(Ah (4,nl,ck,0,0,0,0,ck,ck) hZ U i0 F).x0 λam L ah=>?_;rw[en,<-hN]at ah;have f:=F.comp ah;refine⟨(0,ck,am,0,0,0,ck,0),hZ,(Ro am s N N L (f.seq 4 hZ λ_=>rfl) (f.seq 2 hZ λ_=>rfl) ii).mono ?_⟩;rintro _ _ ⟨hv,rfl⟩;exact⟨true,hv hZ,aW (λe=>jj) λ_=>⟨a3,f.bt [0,1,2,3]⟩⟩
 rintro _ a6 ⟨a3,S⟩;refine aq (λj:Nat=>(j:Int)) (λj h'=>j<=N.length/\Sp h h' [bu a3 pw da 0 Pow.new D m,aj b 60 (kC (dB pw) (dB a3) da),an 9 s 1 od N,dI (cz 1 aB) 1 bn o X (N.map G)]) (λj=>N.length-j) 0 hZ ⟨zk _,S⟩ ?_;rintro j ca ⟨hj,K⟩
 try dsimp only
 refine af (λe=>?_) λe=>fin K;have c:j<N.length:=ii
 obtain⟨g1,g2,Z⟩:=ap _ (qf c);refine(K.seq 2 hZ λ_=>rfl).bo j hZ c N[j] hZ ?_;refine(Dp (2,N[j],ck,0,0,0,0,ck,ck) hZ U K).mono ?_
 try dsimp only
 rw[g2];rintro _ cn ⟨J,rfl,a8⟩;have bb:=K.comp a8;refine⟨(0,J,ck,0,0,0,ck,0),hZ,bb.alloc ae hZ λb3 cd a7=>?_⟩;refine a7.storeAll ae 5 hZ hZ (gA (0,J,ck,0,0,0,ck,0)) hZ hZ hZ hZ λa9 w=>?_;have hc:=(w.box 5 hZ).cell0 (v:=xJ xP 0) hZ;have W:=w.eC 3 hZ;have br:j<X.length:=by rw[W.2.1,qu];exact c
 refine⟨0,hc,bA (λe=>absurd hZ e) λ_=>⟨J,(w.box 5 hZ).cell hZ,W.1.bo j hZ br X[j] hZ ?_⟩⟩;have M:=Fix.row W (i:=j) (by rw[qu];exact c);rw[List.getElem_map]at M;refine(VD J X[j] (G N[j]) (G N[j]) a9 (w.at 4 hZ) M Z).xa ?_;rw[g0 rfl];exact⟨true,hZ,⟨hc,x7⟩,aW (λe=>jj) λ_=>⟨j+1,i9,⟨c,w.bt [0,1,2,3]⟩,ii⟩⟩
theorem Dw(s:Sl)(l:az)(a:Sl)(l1:az)(e:Sl)(l2:az)(c:Sl)(i:az)(n:Int)(h:Heap)(j:Rd h s 1 aw l)(f:Rd h a 1 aw l1)(d:Rd h e 1 aw l2)(g:Rd h c 1 aw i):
  ai xT 4 #[s,a,e,c,xJ xP n] h λv h'=>v=xN true/\aS (λb=>b<h.size) h h':=Is s l a l1 e l2 c i n h j f d g
end Go.Qw
