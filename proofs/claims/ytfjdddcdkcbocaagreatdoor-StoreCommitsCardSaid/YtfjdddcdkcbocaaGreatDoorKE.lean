/- Lemmas for the proof of the law; no condition. -/
import Derived.Test.YtfjdddcdkcbocaaGreatDoorKD
import Derived.Lib.BufferWrite
import Derived.Lib.UnsafeStr
set_option maxHeartbeats 2000000
set_option linter.unusedVariables false
set_option linter.unusedSimpArgs false
open Go.Proofs.Tryz renaming prog -> xZ
open Go.Value renaming bool -> xT, int -> xP, pointer -> xR, slice -> xQ, string -> xS
open Go.IntKind renaming i64 -> xV, u8 -> xW
set_option maxRecDepth 100000
open Option renaming some -> cO
open Go renaming Addr -> fY
open Go.Qw renaming Heap -> hY
open List renaming length -> n1
open Go.Qw.cT renaming tn -> G7, lp -> Hf
namespace Go.Qw
open Go.Proofs
variable {B:au} {h0 h:hY} {As:List HP} {a v:fY} {offs:Int} {da:List bK} {w:Pow} {ds:aG} {mc:aR}
section
variable {pw:fY}
end
variable {m:aA}
section
variable {pw:fY}
end
structure Wn (p:Pm) (m:aA) (C:Int->aS) (ds:aG):Prop where
 sto:NA m C ds
 live:bn ds m.drives≠[]
 dr:∀k∈m.drives,k<9
 pe:m.p=p
 wt:∀k d,bY ds k=cO d->d.wait=0
variable {p:Pm}
section
variable {C:Int->aS}
end
variable {ds':aG}
section
variable {C:Int->aS}
structure aeD (m:aA) (ds ds':aG) (gone:aD):Prop where
 len:n1 ds'=64
 at_:∀k,k∉gone->bY ds' k=bY ds k
 live:∀k,k∈bn ds' m.drives↔k∈bn ds m.drives/\k∉gone
 sub:∀k∈gone,k∈bn ds m.drives
 nd:gone.Nodup
end
section
variable {C:Int->aS}
structure DK (m:aA) (d d':bu):Prop where
 lost:d'.lost=d.lost
 room:d'.room=d.room
 recs:∀r∈iB m d.l,r∈iB m d'.l
 whole:jl m d.l=true->jl m d'.l=true
structure adX (m:aA) (ds ds':aG):Prop where
 len:n1 ds'=n1 ds
 at_:∀k d,bY ds k=cO d->∃d',bY ds' k=cO d'/\DK m d d'
 no:∀k,bY ds k=none->bY ds' k=none
structure Tidy (m:aA) (d:bu):Prop where
 whole:jl m d.l=true
 keep:(gu m d.l).length<=n1 d.l
 room:n1 d.l<=d.room
structure XOk (m:aA) (C:Int->aS) (e:Qw.cS) (i:Nat) (x:Blk):Prop where
 he:e∈m.objs
 hi:i<e.tries.length
 o:x.o=e.object
 b:x.b=i
 seed:x.seed=ft e.object i (e.tries.getD i 0)
 M:x.M=kd m.p x.seed (Th m C e.object i)
structure Mid (m:aA) (C:Int->aS) (live:aD) (ds:aG) (got:aD):Prop where
 sto:NA m C ds
 lv:∀k∈live,∃d,bY ds k=cO d/\d.lost=false
 wt:∀k d,bY ds k=cO d->d.wait=0∨k∈got
 tidy:∀k∈live,∀d,bY ds k=cO d->Tidy m d
 rm:∀k d,bY ds k=cO d->n1 d.l<=d.room/\d.room<=512
structure aeE (m:aA) (live:aD) (ds:aG) (t most:Int):Prop where
 lv:live=bn ds m.drives
 few:n1 live<=9
 tt:0<=t/\t<n1 live
 c:¬abP live.length t>4096
 mo:0<=most/\most<=64
 slots:∀s∈live,0<=s/\s<64
end
section
variable {C:Int->aS}
def adY(m:aA)(f:aG):Prop:=∀k d,bY f k=cO d->∀b e,bY f b=cO e->∀c∈d.l,∀g∈e.l,∀r a,dt c=cO r->dt g=cO a->dJ m r=true->dJ m a=true->ZQ r=ZQ a->k=b
end
variable {N:Nat} {name:ByteArray} {b:aS}
section
variable {C:Int->aS}
structure aeF (m:aA) (C:Int->aS) (ds:aG) (N:Nat):Prop where
 inv:Inv m C ds N
 once:adY m ds
 room:∀k∈m.drives,∃d,bY ds k=cO d/\d.lost=false/\d.room=400
 four:∀e∈m.objs,e.tries.length<=4
 ids:(m.p.1+m.extra).toNat<=12
structure aeu (m:aA) (C:Int->aS) (rs:List AG) (M:List Mv) (kvs:List (ByteArray×Sl)):Prop where
 nd:(kvs.map Prod.fst).Nodup
 len:kvs.length=m.objs.length
 mem:∀q∈kvs,∃e∈m.objs,e.name=q.1/\∃(j:Nat) (h1:j<rs.length) (h2:j<M.length),q.2=rs[j].2.2.1/\C e.object=M[j].data
 all:∀e∈m.objs,Zk e.name kvs≠none
variable {rs:List AG} {M:List Mv} {kvs:List (ByteArray×Sl)}
end
variable {s:Sl} {l:aS} {f:Bool} {n:Int}
structure aev (B:au) (h0:hY) (As:List HP) (s:Sl) (l:aS):Prop where
 cap:s.len<=s.cap
 st:St B h0 As λh=>Rd h s 1 ar l
theorem aa.Wc{B:au}{d h:hY}{As:List HP}{y:aY}{m:aA}(a:y.1=m.seq/\y.2.1=m.next/\(y.2.2.1,y.2.2.2.1,y.2.2.2.2.1)=m.p/\y.2.2.2.2.2.1=m.extra)
  (H:aa B d h (ai 3 y.2.2.2.2.2.2.1 1 aq m.drives::db 59 y.2.2.2.2.2.2.2 4 aT eC m.objs::As)):aa B d h (be y m::As):=by
 have j:=(H.own 0 n2).cap;have g:=(H.abI 1 n2).2;have i:=((H.freeze 0 n2 λ_=>rfl).aab 1 n2 λ_=>rfl).jW;refine i.dG 0 n2 λq ⟨l,n,_,b,c,k,e⟩=>?_;exact⟨a.1,a.2.1,a.2.2.1,a.2.2.2,e.mono λx f=>c x f,ov.mono k b,j,g⟩
abbrev PgV:=Int×Int×Int×Sl×Sl
def adZ(p:PgV×Pg):Prop:=p.1.1=p.2.seq/\p.1.2.1=p.2.num/\p.1.2.2.1=p.2.many
structure aeG (h:hY) (p:PgV×Pg):Prop where
 bears:Rd h p.1.2.2.2.1 1 ar p.2.bears
 cell:Rd h p.1.2.2.2.2 1 ar p.2.cell
 len:n1 p.2.bears<=48
structure aeH (ll:dS) (rs:List Sl) (pool:List (Sl×aS)) (p:PgV×Pg):Prop where
 ok:adZ p
 bears:(p.1.2.2.2.1,p.2.bears)∈pool
 len:n1 p.2.bears<=48
 many:p.2.many<=255
 cell:∃k:Nat,rs[k]?=cO p.1.2.2.2.2/\ll[k]?=cO p.2.cell
variable {h':hY} {d:List aY}
variable {α β:Type} {E:jg α β} {e k:Nat} {ll:List β}
section
variable {f:α->aR}
end
def acH(m:aA)(i:Nat):Bool:=decide ((i:Int)∈m.drives)
structure Hi (M:Int->aA) (m:aA) (ds:aG):Prop where
 cur:M m.seq=m
 at_:∀k d,bY ds k=cO d->k∈m.drives
 pg:∀k d,bY ds k=cO d->∀c∈d.l,∀g,DB c=cO g->(1<=g.seq/\g.seq<=m.seq)/\c∈bI (M g.seq)/\k∈(M g.seq).drives
 ok:∀q,1<=q->q<=m.seq->bH (M q)=true/\(M q).seq=q/\(bI (M q)).length<=2
variable {M:Int->aA}
section
variable {n:aA}
end
section
variable {n:aA} {d:bu}
def acS(l:dS):Nat:=l.countP λc=>(dt c).isSome
end
structure Wt (z:Prop) (i:Nat) (p:Pm) (m:aA) (ds:aG):Prop where
 may:bH m=true
 len:n1 ds=64
 pe:m.p=p
 dr:∀k∈m.drives,k<9
 hi:∃M,Hi M m ds
 slim:z->∀k d,bY ds k=cO d->d.lost=false->acS d.l+1<=n1 d.l/\acS d.l+2<=d.room
 seq:m.seq<=i+1
 ent:∀e∈m.objs,e.name∈EZ/\e.length<=3*(p.1*p.2.2)+1
variable {z:Prop} {i:Nat}
structure Tn (p:Pm) (m:aA) (C:Int->aS) (ds:aG):Prop where
 sto:NA m C ds
 dr:∀k∈m.drives,k<9
 pe:m.p=p
 wt:∀k d,bY ds k=cO d->d.wait=0
section
variable {C:Int->aS}
end
section
variable {C:Int->aS}
end
section
variable {C:Int->aS}
end
section
variable {pw:fY}
theorem KL(x:aY)(m:aA)(c:cj h x m)(d:m.objs=[])(H:aa B h0 h (aJ bP a pw (az x) offs da w ds::As)):
  an xZ 21 #[xR (cO a)] h λv h'=>v=xQ none 0 0/\h'=h:=by
 refine ts Tryz.func21 ?_ (G7 (G7 (G7 (Hf [(3,bN),(14,aH)] [(3,4),(5,6),(14,25)]))));obtain⟨ok,f⟩:=aa.cB H;refine(pr (cO a) (R:=λv h'=>v=xT (gO w offs)/\h'=h) ?_).mono ?_
 .skip
  refine aU (λe=>oj) λ_=>(pM H).I0 ⟨_,n2,n2,n2⟩
 rintro _ _ ⟨rfl,rfl⟩;refine⟨_,n2,aU (λ_=>⟨n2,n2⟩) λ_=>⟨a,n2,x.2.2.2.2.2.2.2,f.cell n2,?_⟩⟩;have b:=bW.len c.objs;rw[d]at b;refine ak (λ_:Unit=>((⟨none,0,0⟩:Sl),(0:Int))) (λ_ h'=>h'=_) (λ_=>0) () n2 n2 ?_;rintro _ g rfl;exact ae (λe=>absurd e (by rw[b];decide)) λ_=>⟨n2,n2⟩
theorem NI(h:hY):an xZ 5 #[] h λv h'=>v=xT true/\Sp h h' []:=by refine ts Tryz.func5 ?_;refine(JI h).I2 λpw n l=>⟨_,n2,?_⟩;refine l.lit af aq eK n2 [5] n2 (show 1*1<=2^20 by decide) n2 λd o k=>?_;refine(ET (1,1,1) 0 d [5] (As:=[ai 3 d 1 aq [5]]) (St.dN 0 n2 λh' i=>i.1.seq (λ_=>rfl) i.2) n4 k).mono ?_;rintro _ h3 ⟨_,Q⟩;obtain⟨a,x,da,rfl,b⟩:=Q Yw;have j:bG (cv (1,1,1) 0 [5]):=sK _ _ _ n4;have c:cj h3 x (cv (1,1,1) 0 [5]):=b.at 1 n2;refine⟨(cO a,0),n2,aV (λ_=>aU (λ_=>?_) λe=>oj) λe=>absurd n2 e⟩;refine(KL x _ c n2 b).I0 ⟨⟨none,0,0⟩,n2,aV (λ_=>?_) λe=>absurd n2 e⟩;refine(fx x _ c j b).I2 λr m f=>?_;have g:=(f.own 0 n2).len;rw[Tm]at g;refine⟨r,n2,?_,.zip (aa.up b f.ac).ac⟩;rw[g];rfl
end
theorem Wd(n:Int)(m:n<2^62)(H:aa B h0 h (gc a w::As)):an xZ 15 #[xR (cO a),xP xV n] h λv h'=>v=.tuple #[]/\aa B h0 h' (gc a (w.arm n)::As):=by
 obtain⟨l,o,f⟩:=H.jF;refine ts Tryz.func15 ?_;refine⟨a,n2,w.off,(f.box 0 n2).cell0 n2,aI (λe=>?_) λe=>?_⟩
 .have d:w.off=false:=pt
  refine⟨a,n2,f.store af 0 n2 n2 1 [xT (decide (n>=0))] n2 n2 n2 n9 λp g=>?_⟩;refine⟨a,n2,g.store af 0 n2 n2 2 [xP xV n] n2 n2 n2 Cr λh3 i=>⟨n2,?_⟩⟩;refine aa.mI (l:=n) (λk c=>?_) ?_
  .unfold Pow.arm at c;rw[m6 Bk]at c;by_cases b:0<=n
   .rw[l0 b]at c;simp at c;subst c;omega
   .rw[m6 b]at c;cases c
  .have j:powC (w.arm n) n=[xT w.off,xT (decide (n>=0)),xP xV n,xP xV w.offs]:=by
    unfold Pow.arm powC;rw[m6 Bk];by_cases b:0<=n
    .rw[l0 b];simp[d,b]
    .rw[m6 b];simp[d];omega
   rw[j];exact i
 .have:w.arm n=w:=by unfold Pow.arm;rw[l0 pt]
  rw[this];exact⟨n2,H⟩
variable {a2 pw2 b2:fY} {da2:List bK}
section
variable {pw b:fY}
end
variable {q:bK}
section
variable {pw b:fY}
end
theorem Pu(s:ByteArray)(h:hY)(hs:s.size<=2^31):an xZ 142 #[xS s] h λv h'=>v=xS s/\Sp h h' []:=by
 refine ts Tryz.func142 ?_;refine aV (λe=>?_) λe=>?_
 .have z:s.size=0:=n3
  have:s=⟨#[]⟩:=by
   cases s with
   |mk d=>
    have:d=#[]:=Array.eq_empty_of_size_eq_zero z;rw[this]
  rw[this];exact⟨n2,Sp.refl h⟩
 .refine(Sp.refl h).Ee af ar cN n4 0 n2 n2 s.size s.size n2 n2 (qk _) n3 λB h1 N I Z=>?_;obtain⟨J,r⟩:=Sp.fresh Z 0 rfl;have T:=J.len;rw[wY]at T;rcases J.head with⟨p1,p2,p3⟩|⟨b,rest,p1,p2,p3,p4⟩
  .exfalso;have:=congrArg List.length p3;rw[wY,List.length_nil]at this;omega
  have V:=r b ⟨0,p1⟩;have g:n1 s.data.toList=s.size:=by rw[Array.length_toList];rfl
  obtain⟨M,K⟩:∃M:Array Value,M=((List.replicate s.size (0:UInt8)).flatMap ar++rest).toArray:=⟨_,rfl⟩
  rw[<-K]at p2;have ab:s.size<=M.size:=by rw[K];simp[dO (f:=ar) (k:=1) λ_=>rfl]
  obtain⟨Y,G⟩:∃Y:Array Value,Y=(M.toList.take 0++Lib.byteCells s.data.toList++M.toList.drop (0+s.size)).toArray:=⟨_,rfl⟩
  rw[p1];intro w E;have H:w.heap[b]?=cO (.cells M 5 (0,0)):=by rw[E];exact p2
  have o:=Lib.run_copy_row_string (P:=xZ) w 41 9 3 5 b 0 B.len B.cap s M 5 qa qa H n3 n3;rw[<-G]at o;have t:(w.setRow b Y).heap[b]?=cO (.cells Y 5 (0,0)):=setRow_heap _ _ M _ 5 (0,0) H;refine⟨_,_,o,⟨n2,n2,n2,qk _⟩,(s.size:Int),n2,⟨b,0,none⟩,⟨(by first|exact p1|rfl),n4,n3⟩,?_⟩;intro q c;have p:Y.toList=Lib.byteCells s.data.toList++M.toList.drop s.size:=by rw[G];simp
  have A:(Lib.byteCells s.data.toList).length=s.size:=by rw[Lib.byteCells_length,g]
  have O:s.size<=Y.size:=by rw[<-Array.length_toList,p,List.length_append,A];omega
  have m:q.heap[b]?=cO (.cells Y 5 (0,0)):=by rw[c];exact t
  have y:s.data.toList≠[]:=λz=>by rw[z]at g;simp at g;omega
  have D:=Lib.run_unsafeString_row (P:=xZ) q 237 3 9 5 qa qa b Y.size (by unfold World.shape?;rw[m]) s.data.toList y n3 n3 (λj x F=>by
   have hj:j<s.size:=by have:=(List.getElem?_eq_some_iff.1 F).1;omega
   have U:Y[j]?=cO (xP xW (x.toNat:Int)):=by rw[<-Array.getElem?_toList,p,List.getElem?_append_left n3];unfold Lib.byteCells;rw[List.getElem?_map,F];rfl
   have ea:((⟨b,0,none⟩:fY).add j)=⟨b,j,none⟩:=by unfold Addr.add;split<;>simp_all
   rw[ea];unfold World.cell?;simp only[m,U];rfl)
  have R:((B.len:Nat):Int)=(n1 s.data.toList:Int):=n3
  have W:∀(a:World) (n:Nat),(a.freeze ⟨b,0,none⟩ n).heap.size=a.heap.size/\(∀k,k≠b->(a.freeze ⟨b,0,none⟩ n).heap[k]?=a.heap[k]?)/\dn a (a.freeze ⟨b,0,none⟩ n):=λa n=>by
   unfold World.freeze;split
   .exact⟨n2,λ_ _=>rfl,dn.refl _⟩
   .refine⟨n9,λk l=>?_,⟨n2,n2,n2,qk _⟩⟩;rw[yo,m6 λh=>l h.symm]
  obtain⟨X,S,L⟩:=W q s.data.toList.length;refine⟨xS ⟨s.data.toList.toArray⟩,q.freeze ⟨b,0,none⟩ s.data.toList.length,?_,L,⟨s.data.toList.toArray⟩,n2,n9,?_⟩
  .rw[R];exact D
  .have s1:(w.setRow b Y).heap.size=w.heap.size:=by unfold World.setRow;simp
   have Q:∀k,k≠b->(w.setRow b Y).heap[k]?=w.heap[k]?:=λk l=>by
    unfold World.setRow;rw[yo,m6 λh=>l h.symm]
   refine .zip ⟨by rw[X,c,s1,E];exact I.1,λk l u=>?_⟩;have i:k≠b:=by have:=V.1;omega
   rw[S k i,c,Q k i,E];exact I.2 k l u
theorem KM(s:ByteArray)(h:hY)(a:s.size<=2^31):an xZ 78 #[xS s] h λv h'=>v=xS s/\Sp h h' []:=by refine ts Tryz.func78 ?_;refine(Pu s h a).I1 λc b=>⟨_,n2,n2,b⟩
def mb(m:aA)(a:Int)(w:Pow):List ByteArray:=if gO w a then[]else m.objs.map Qw.cS.name
section
variable {pw:fY}
theorem Tp(x:aY)(s:bH m=true)(H:aa B h0 h (aJ bP a pw (az x) offs da w ds::be x m::As)):
  an xZ 21 #[xR (cO a)] h λv h'=>∃r:Sl,v=r/\Sp h h' [ai 9 r 1 pk (mb m offs w)]:=by
 refine ts Tryz.func21 ?_ (G7 (G7 (G7 (Hf [(3,bN),(14,aH)] [(3,4),(5,6),(14,25)]))));refine(ox H).mono ?_;rintro _ k ⟨rfl,rfl⟩;refine⟨_,n2,aU (λe=>?_) λL=>?_⟩
 .have:mb m offs w=[]:=by unfold mb;rw[l0 e]
  rw[this];exact⟨⟨none,0,0⟩,n2,(Sp.refl k).nil 9 1 pk⟩
 have en:mb m offs w=m.objs.map Qw.cS.name:=by unfold mb;rw[m6 (by rw[L];decide)]
 rw[en];have K:=(aa.cB H).2;have z:cj k x m:=H.at 1 n2;have N:=((ck m).1 s).2.2.2.1;obtain⟨u,F⟩:=bW.fix z.objs;have D:=F.2.1;have y:=F.1.len;refine⟨a,n2,x.2.2.2.2.2.2.2,K.cell n2,?_⟩;refine ak (λt:Sl×Nat=>(t.1,(t.2:Int))) (λt h'=>t.2<=n1 m.objs/\Sp k h' [ai 9 t.1 1 pk ((m.objs.map Qw.cS.name).take t.2)]) (λt=>n1 m.objs-t.2) (⟨none,0,0⟩,0) n2 ⟨n9,by simpa using(Sp.refl k).nil 9 1 pk⟩ ?_;rintro⟨o,i⟩ S ⟨M,j⟩;dsimp only at M j⊢;refine ae (λe=>?_) λe=>?_
 .have c:i<n1 m.objs:=n3
  have b:=Fix.row F c;obtain⟨E,p⟩:=I3 (m.objs[i])
  have l:E∈m.objs:=by rw[p];exact List.getElem_mem c
  obtain⟨xe,f⟩:=I3 (u[i]'n3)
  rw[<-p,<-f]at b;have d:xe.1=E.name:=b.1.1;have O:E.name.size<=12:=by have:=((gX m E).1 (((ck m).1 s).2.2.2.2.1 E l)).1;unfold gB at this;simp at this;omega
  refine(Seq.up F.1 j.ac).cH (g:=aT) i n2 n3 xe (by rw[f]) ?_;refine j.alloc af n2 λU h3 I=>?_;refine I.storeAll af 1 n2 n2 (aT xe) n2 n2 n2 n2 λA q=>?_;refine⟨xe.1,(q.box 1 n2).cell0 n2,(KM xe.1 A (by rw[d];omega)).I1 λR J=>?_⟩;have P:=(q.up J.ac).bs [0];refine⟨_,n2,P.push af 0 n2 Yx n2 n4 (λ_=>rfl) QF xe.1 n2 n4 n7 λG T Q=>?_⟩;refine⟨(G,i+1),n8,⟨n5,?_⟩,n5⟩
  try dsimp only
  rw[aC _ _ (show i<(m.objs.map Qw.cS.name).length by simpa using c),List.getElem_map,<-p,<-d];exact Q
 .rw[List.take_of_length_le (by rw[List.length_map];omega)]at j;exact⟨o,n2,j⟩
theorem Yz(b:bH m=true)(H:aa B h0 h (fK a pw da offs w ds m::As)):
  an xZ 21 #[xR (cO a)] h λv h'=>∃r:Sl,v=r/\Sp h h' [ai 9 r 1 pk (mb m offs w)]:=by
 obtain⟨x,H⟩:=iP H;exact Tp x b H
end
variable {L:List bK}
section
variable {pw b:fY}
end
variable {X:HP}
section
variable {L:List HP} {k:Kit} {pw b:fY} {d:bu} {n:Nat}
structure aep (da:List bK) (ds:aG):Prop where
 len:n1 da=n1 ds
 same:∀i:Nat,(da.getD i none).isSome=(ds.getD i none).isSome
end
variable {t t2 eb by_:Nat} {l2:List α} {pre post:aR}
section
variable {C:Ctx} {ty:Nat} {z:aR} {p:au} {v:Sl} {f:α->aR} {l:List α}
end
section
variable {pw:fY} {d:bu}
end
section
variable {pw:fY} {d:bu} {n:Nat}
end
section
variable {pw:fY}
end
structure aeI (m:aA) (d:bu):Prop where
 lost:d.lost=false
 room:d.room=90
 len:n1 d.l<=40
 few:(ady d.l).length<20
section
variable {d e f:bu}
structure GrD (m:aA) (d e:bu):Prop where
 lost:e.lost=d.lost
 room:e.room=d.room
 pg:∀c∈e.l,DB c≠none->c∈d.l∨c∈bI m
 whole:(∀c∈bI m,c∈d.l)->∀c∈bI m,c∈e.l
 q:d.laid=[]/\d.has=false->e.laid=[]/\e.has=false
structure GrS (T:bu->bu->Prop) (ds ds':aG):Prop where
 len:n1 ds'=n1 ds
 at_:∀k d,bY ds k=cO d->∃e,bY ds' k=cO e/\T d e
 no:∀k,bY ds k=none->bY ds' k=none
variable {T:bu->bu->Prop}
end
section
variable {n:aA} {C:Int->aS} {d e f:bu}
structure Os (i:Nat) (p:Pm) (m:aA) (C:Int->aS) (ds:aG):Prop where
 wt:Wt False i p m ds
 sto:NA m C ds
 full:Full m C ds
 ne:m.drives≠[]
structure ClD (m:aA) (d e:bu):Prop where
 lost:e.lost=d.lost
 room:e.room=d.room
 l:e.l=d.l∨e.l=gu m d.l
end
section
variable {n:aA} {C:Int->aS} {d e:bu}
def Qt(d:bu):Prop:=d.wait=0/\d.laid=[]/\d.has=false
structure Ab (i:Nat) (p:Pm) (m:aA) (C:Int->aS) (ds:aG):Prop where
 os:Os i p m C ds
 q:∀k d,bY ds k=cO d->Qt d
end
section
variable {pw b:fY}
end
section
variable {pw:fY}
end
def aaK(l:List cS):List (Int×Int×Int):=l.flatMap λe=>(List.range e.tries.length).map λi:Nat=>(e.object,(i:Int),ft e.object i (e.tries.getD i 0))
variable {D:aG} {xb xs:aY}
section
variable {pw b:fY}
end
section
variable {pw b:fY} {d:bu}
end
section
variable {pw b:fY}
end
section
variable {C:Int->aS}
def adA(p:Pm)(seed:Int)(live:aD)(t:Nat)(G:aD)(W:cR):Prop:=∀g∈ZL live.length t,(∃s∈G,acO live s∉g)∨fE p seed (SM W g live.length)=true
structure aeJ (m:aA) (live G:aD) (ds:aG) (t:Int) (e:Qw.cS) (i:Nat):Prop where
 full:fE m.p (ft e.object i (e.tries.getD i 0)) (aaI m ds e.object i)=true
 spare:adA m.p (ft e.object i (e.tries.getD i 0)) live t.toNat G (Ni m ds e.object i live)
end
end Go.Qw
