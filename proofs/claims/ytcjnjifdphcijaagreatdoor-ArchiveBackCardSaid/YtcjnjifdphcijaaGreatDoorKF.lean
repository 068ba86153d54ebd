/- Lemmas for the proof of the law; no condition. -/
import Derived.Test.YtcjnjifdphcijaaGreatDoorKE
set_option maxHeartbeats 2000000
set_option linter.unusedVariables false
set_option maxHeartbeats 4000000
set_option linter.unusedSimpArgs false
open Go.Proofs.Tryz renaming prog -> xT
open Go.Value renaming agg -> xO, bool -> xN, int -> xJ, pointer -> xL, slice -> xK
open Go.IntKind renaming i64 -> xP, u32 -> xR, wrap -> qe
open List renaming getElem_range -> vk, length_pos_iff -> vM, mem_flatten -> vI, pairwise_lt_range -> yO, pairwise_map -> yl, range -> qx, replicate -> qg, sum_cons -> xC
open Prod renaming fst -> qE, snd -> zi
open Int renaming le_refl -> yD
open Go.Builtin renaming copy_ -> yh
open Go.Instr renaming storeAt -> qH
set_option maxRecDepth 100000
open Option renaming some -> dB, none -> et
open Bool renaming true -> ez, false -> eH
open Go renaming Addr -> eS
open Go.Qw renaming Heap -> f7
open List renaming length -> hY
open Go.Qw.cN renaming two -> u7, n -> u9, inn -> v1, loop -> v2, join -> v6, tn -> v7, lp -> wj, jn -> ws
namespace Go.Qw
open Go.Proofs
abbrev mA(p:bD):aT:=[.pointer p]
def NL(pw:eS)(h:f7):bD->Option ba->Prop
 |none,et=>True
 |some a,dB d=>gO d/\(gh d.l).length<20/\∃s b:Sl,bQ h a 155 (ft pw d s b)/\fe h s 1 aB d.l
 |_,_=>False
theorem NL.up{pw:eS}{h h':f7}{p:bD}{d:Option ba}(x:NL pw h p d)(f:aS (λb=>b<h.size) h h'):NL pw h' p d:=by
 cases p<;>cases d
 .trivial
 .exact x
 .exact x
 .obtain⟨a,b,s,t,c,rs,e⟩:=x;exact⟨a,b,s,t,c.ac f c.lt,rs,fT.up e f⟩
theorem SX{pw:eS}(s:Sl)(P:List bD)(ds:aD)(h:f7)(X:Rd h s 1 mA P)(hl:hY P=hY ds)(hn:hY ds<=64)(hd:∀(i:Nat) (p:bD) (d:Option ba),P[i]?=dB p->ds[i]?=dB d->NL pw h p d):
  ai xT 126 #[s] h λv h'=>∃x:bh,v=.tuple #[dK x,xN (ja ds).isSome]/\(ja ds=et->x=fu)/\Sp h h' [bI x ((ja ds).getD jU)]:=by
 refine ts Tryz.func126 ?_ (v7 (.scope 0 [(5,ka),(6,aU)] [(3,4),(5,7),(8,50)] [u9,u9,u9] [(.two u9 (.two u9 (.two (.join [] [(17,29)] u9) (.two (.two u9 (.inn (.loop [(5,ka),(35,aU)] [(5,6),(8,9),(35,50)] u9))) u9))))] []));have ay:=X.len;refine(Sp.refl h).alloc ae hZ λK h1 H1=>H1.alloc ae hZ λH h2 H2=>?_;have H2:=Qw.aa.fu H2;refine aq (λt:Nat×Bool=>(t.2,(t.1:Int)-1)) (λt h'=>t.1<=hY ds/\∃(o:Option ak) (x:bh),o=((ds.take t.1).flatMap iQ).foldl io et/\t.2=o.isSome/\(o=et->x=fu)/\
  Sp h h' [bI x (o.getD jU),aj K 85 (aM fu),aj H 85 (aM x)]) (λt=>hY ds-t.1) (0,eH) hZ ⟨zk _,et,fu,hZ,hZ,λ_=>rfl,H2⟩ ?_
 rintro⟨i,f⟩ h3 ⟨hi,o,x,F,Y,hx,B⟩;dsimp only at hi F Y B⊢;rw[show qe xP ((i:Int)-1+1)=(i:Int)from by rw[ag _];omega];refine af (λe=>?_) λe=>?_
 .have hid:i=hY ds:=ii
  rw[hid,qM]at F;have F:ja ds=o:=F.symm;refine⟨x,(B.box 2 hZ).aA _ hZ,B.storeAll ae 1 hZ hZ (aM x) hZ hZ hZ hZ λh4 H4=>?_⟩;refine⟨x,(H4.box 1 hZ).aA _ hZ,x,by rw[F,Y],by rw[F];exact hx,by rw[F];exact H4.bt [0]⟩
 .have w:i<hY ds:=ii
  have z:i<hY P:=ii
  obtain⟨d,N⟩:∃d,ds[i]?=dB d:=⟨_,qc w⟩
  have ab:ds[i]=d:=by rw[qc w]at N;injection N
  obtain⟨p,I⟩:∃p,P[i]?=dB p:=⟨_,qc z⟩
  have J:P[i]=p:=by rw[qc z]at I;injection I
  have O:=(hd i p d I N).up B.ac;have A:(ds.take (i+1)).flatMap iQ=(ds.take i).flatMap iQ++iQ d:=by rw[aE _ _ w,List.flatMap_append,ab];simp
  have skip:iQ d=[]->∀{h':f7} {Bs:List HP},Sp h h' (bI x (o.getD jU)::aj K 85 (aM fu)::aj H 85 (aM x)::Bs)->
    ∃t:Nat×Bool,(f,(i:Int))=(t.2,(t.1:Int)-1)/\(t.1<=hY ds/\∃(o:Option ak) (x:bh),o=((ds.take t.1).flatMap iQ).foldl io et/\t.2=o.isSome/\(o=et->x=fu)/\
  Sp h h' [bI x (o.getD jU),aj K 85 (aM fu),aj H 85 (aM x)])/\ds.length-t.1<hY ds-i:=λem {h' Bs} H'=>
   ⟨(i+1,f),lz,⟨w,o,x,by dsimp only;rw[A,em,qG];exact F,Y,hx,H'.bt [0,1,2]⟩,i4⟩
  refine aG ?_;refine(Seq.up X B.ac).mU i hZ z p (by rw[J]) λa6 _=>?_;cases p with
  |none=>
   cases d with
   |some d=>exact absurd O id
   |none=>exact aY (λ_=>skip hZ B) λe=>jj
  |some a=>
   cases d with
   |none=>exact absurd O id
   |some d=>
    refine aY (λe=>jj) λ_=>?_;obtain⟨ok,T,s1,b1,U,ad⟩:=O;refine(Seq.up X B.ac).mU i hZ z (dB a) (by rw[J]) λa8 _=>?_;refine(sT s1 b1 U).xa ⟨_,hZ,aY (λel=>skip (by unfold iQ;(try dsimp only);rw[f8 el]) B) λel=>?_⟩;have R:iQ (dB d)=gh d.l:=by unfold iQ;(try dsimp only);rw[el];rfl
    refine(Seq.up X B.ac).mU i hZ z (dB a) (by rw[J]) λa4 _=>?_;refine(WU s1 b1 U ad ok T).x0 λr h7 ⟨hz,R7⟩=>?_;have H7:=(B.comp R7).bt [3,0,1,2];obtain⟨ps,S,H7⟩:=Qw.aa.aeM H7;refine⟨r,hZ,?_⟩;have ar:hY ps<20:=by rw[<-qu (f:=zi),S];exact T
    refine aq (λt:Nat×Bool=>(t.2,(t.1:Int))) (λt h'=>t.1<=hY ps/\∃(b:Option ak) (y:bh),b=((ps.take t.1).map zi).foldl io o/\t.2=b.isSome/\(b=et->y=fu)/\((y,b.getD jU)=(x,o.getD jU)∨(y,b.getD jU)∈ps)/\
     Sp h h' [Cg nC ps,an 85 r 8 aM (ps.map qE),bI x (o.getD jU),aj K 85 (aM fu),aj H 85 (aM y)]) (λt=>hY ps-t.1) (0,f) hZ ⟨zk _,o,x,hZ,Y,hx,.inl hZ,H7⟩ ?_
    rintro⟨j,g⟩ h8 ⟨hj,b,y,E,W,hy,L,G⟩;dsimp only at hj E W G⊢;have am:=(G.own 1 hZ).len;simp only[qu]at am;have u:y.1=(b.getD jU).seq:=by
     rcases L with D|D
     .injection D with h1 h2
      rw[h1,h2];exact(G.at 2 hZ).seq
     .exact(G.at 0 hZ _ D).seq
    refine af (λe2=>?_) λe2=>?_
    .have k:j<hY ps:=ii
     have ap:=(G.at 0 hZ _ (qf k)).seq;have V:((ps.take (j+1)).map zi).foldl io o=io b ps[j].2:=by rw[aE _ _ k,List.map_append,wc,<-E];rfl
     refine(G.seq 1 hZ λ_=>rfl).de (g:=aM) j hZ (by simpa using k) ps[j].1 i6 ?_;refine G.alloc ae hZ λax h9 H9=>?_;refine H9.storeAll ae 5 hZ hZ (aM ps[j].1) hZ hZ hZ hZ λa0 c=>?_;have take:io b ps[j].2=dB ps[j].2->∀{h':f7} {Bs:List HP},Sp h h' (Cg nC ps::an 85 r 8 aM (ps.map qE)::bI x (o.getD jU)::aj K 85 (aM fu)::aj H 85 (aM ps[j].1)::Bs)->
       ∃t:Nat×Bool,(ez,qe xP ((j:Int)+1))=(t.2,(t.1:Int))/\(t.1<=hY ps/\∃(b:Option ak) (y:bh),b=((ps.take t.1).map zi).foldl io o/\t.2=b.isSome/\(b=et->y=fu)/\((y,b.getD jU)=(x,o.getD jU)∨(y,b.getD jU)∈ps)/\
     Sp h h' [Cg nC ps,an 85 r 8 aM (ps.map qE),bI x (o.getD jU),aj K 85 (aM fu),aj H 85 (aM y)])/\ps.length-t.1<hY ps-j:=λem {h' Bs} H'=>
      ⟨(j+1,ez),i9,⟨k,dB ps[j].2,ps[j].1,by dsimp only;rw[V,em],hZ,(λD=>by cases D),.inr (qf k),H'.bt [0,1,2,3,4]⟩,i4⟩
     refine aW (λQ=>?_) λQ=>?_
     .refine⟨ps[j].1,(c.box 5 hZ).aA _ hZ,c.storeAll ae 4 hZ hZ (aM ps[j].1) hZ hZ hZ hZ λao ah=>take ?_ ah⟩;have:b=et:=by cases b with|none=>rfl|some _=>rw[W]at Q;cases Q
      rw[this];rfl
     .obtain⟨m',M⟩:∃m',b=dB m':=by cases b with|none=>rw[W]at Q;cases Q|some m=>exact⟨m,rfl⟩
      rw[M]at u;have u:y.1=m'.seq:=u;refine⟨ps[j].1.1,(c.box 5 hZ).cell0 hZ,y.1,(c.box 4 hZ).cell0 hZ,af (λe3=>?_) λe3=>?_⟩
      .refine⟨ps[j].1,(c.box 5 hZ).aA _ hZ,c.storeAll ae 4 hZ hZ (aM ps[j].1) hZ hZ hZ hZ λa3 Z=>take ?_ Z⟩;rw[M];unfold io;(try dsimp only);exact f8 ii
      .refine⟨(j+1,g),i9,⟨k,b,y,?_,W,hy,L,c.bt [0,1,2,3,4]⟩,i4⟩
       try dsimp only
       rw[V,M];unfold io;(try dsimp only);exact(f9 ii).symm
    .have al:j=hY ps:=ii
     rw[al,qM,S]at E;refine⟨(i+1,g),lz,⟨w,b,y,?_,W,hy,?_⟩,i4⟩
     .try dsimp only
      rw[A,wc,<-F,R];exact E
     .rcases L with D|D
      .injection D with q1 q2
       have:=G.bt [2,3,4];rw[q2];rw[q1]at this⊢;exact this
      .have H9:Sp h h8 [bI y (b.getD jU),an 85 r 8 aM (ps.map qE),bI x (o.getD jU),aj K 85 (aM fu),aj H 85 (aM y)]:=G.eW 0 hZ λq hq=>hq _ D;exact H9.bt [0,3,4]
def gP(m:ak)(d:ba):bH:=if(bC m d.l).length<=d.room then bC m d.l else(kv m d.l).take d.room
theorem aaj{pw a:eS}{d:ba}{h:f7}(s b:Sl)(x:bh)(m:ak)(g:bQ h a 155 (ft pw d s b))(y:fe h s 1 aB d.l)(ok:gO d)(o:cR h x m)(u:cC m):
  ai xT 127 #[xL (dB a),dK x] h λv h'=>∃r:Sl,v=r/\Sp h h' [gg r (gP m d)]:=by
 refine ts Tryz.func127 ?_ (args:=[(dB a),x]);refine(Sp.refl h).boxed λH F j=>?_;refine⟨x,(j.box 0 rfl).aA _ rfl,(AO s b x m (g.ac j.ac g.lt) (by obtain⟨rs,e⟩:=y;exact⟨rs,fT.up e j.ac⟩) ok (o.up j.ac) u).x0 λn G q=>?_⟩;have f:=j.comp q;have D:=(q.tj).1;have k:=g.ac f.ac g.lt;refine⟨n,hZ,(EP s b k).xa ?_⟩;refine⟨_,hZ,af (λe=>?_) λe=>?_⟩
 .have e:(n.len:Int)<=(d.room:Int):=e;refine⟨n,hZ,?_⟩;unfold gP;rw[f8 ii];exact f.bt [1]
 .have e:¬(n.len:Int)<=(d.room:Int):=e;refine⟨x,(f.box 0 rfl).aA _ rfl,(Jv s b x m k (by obtain⟨rs,e⟩:=y;exact⟨rs,fT.up e f.ac⟩) ok (o.up f.ac) u).x0 λc h3 t=>?_⟩;have p:=f.comp t;have i:=t.tj;refine⟨c,hZ,(EP s b (g.ac p.ac g.lt)).xa ?_⟩;have w:=i.1;have E:(if(d.room:Int)<(c.len:Int)then(d.room:Int)else(c.len:Int))=((min d.room c.len:Nat):Int):=by split<;>omega
  refine⟨_,hZ,?_⟩;show(0<=(if(d.room:Int)<(c.len:Int)then(d.room:Int)else(c.len:Int))/\_)/\_;rw[E];refine⟨⟨ii,Int.ofNat_le.2 (qQ (xg _ _) i.2)⟩,⟨c.ptr,min d.room c.len,c.cap⟩,by rw[qj],?_⟩;have z:=p.bt [2];have B:=z.ajf (min d.room c.len) (by rw[<-w];exact xg _ _);unfold gP;rw[f9 ii];have:(kv m d.l).take d.room=(kv m d.l).take (min d.room c.len):=by
   rw[w];by_cases A:d.room<=hY (kv m d.l)
   .rw[wz A]
   .rw[Nat.min_eq_right ii,qM,qh ii]
  rw[this];exact B
theorem aga{m:ak}{C:Int->aL}{l:bH}(i:bc m=ez)(f:∀c∈l,dN m C c):∀x∈gh l,x.seq<m.seq∨x=m:=λx e=>by
 obtain⟨b,k⟩:=HY e;have d:=Dh b;have a:(nW x 0).cell∈l:=k _ (by rw[jo];exact qo.2 ⟨0,qz.2 d,hZ⟩);have:=((f _ a).page _ (jg b d)).1;have:x.seq<=m.seq:=this;by_cases h:x.seq=m.seq
 .exact .inr (MB i (λc a g n j=>((f c a).page g n).2 j) e h)
 .exact .inl ii
theorem WV{m:ak}{C:Int->aL}{l:bH}(e:∀c∈l,dN m C c)(a:fx m l=ez):m∈gh l:=by unfold fx at a;rw[qy]at a;exact acI a.1 (λc b=>hU (qK.1 a.2 c b)) λc b g f d=>((e c b).page g f).2 d
theorem aak{ds:aD}{m:ak}{C:Int->aL}(h:bc m=ez)(f:∀d,dB d∈ds->∀c∈d.l,dN m C c){d:ba}(e:dB d∈ds)(a:d.lost=eH)(i:fx m d.l=ez):ja ds=dB m:=
 Zu e a (WV (f d e) i) λg b _=>aga h (f g b)
def iO(m:ak)(w:Pow)(ds:aD)(k:Int):Int×Pow×aD:=
 match aH ds k with
 |none=>(0,w,ds)
 |some d=>if d.lost then(0,w,ds)else if d.l=gP m d then(0,w,ds)else((d.rewrite w (gP m d)).1,(d.rewrite w (gP m d)).2.1,cu ds k (d.rewrite w (gP m d)).2.2)
def opens(m:ak):az->Pow->aD->Int×Pow×aD
 |[],w,ds=>(0,w,ds)
 |k::l,w,ds=>if(iO m w ds k).1=0 then opens m l (iO m w ds k).2.1 (iO m w ds k).2.2 else iO m w ds k
def sI(m:ak)(d:ba):ba:=if d.lost=ez∨d.l=gP m d then d else{d with l:=gP m d,wait:=0,laid:=[],has:=eH}
def gj{α:Type}(q:Nat->Bool)(l:List (Option α)):List (Option α):=(qx 64).map λi=>if q i then l.getD i et else et
theorem px{α:Type}(q:Nat->Bool)(l:List (Option α))(i:Nat)(a:i<64):(gj q l)[i]?=dB (if q i then l.getD i et else et):=by unfold gj;rw[List.getElem?_map,List.getElem?_range a];rfl
theorem AX{α:Type}(q:Nat->Bool)(l:List (Option α)):hY (gj q l)=64:=by simp[gj]
def mT(m:ak)(i:Nat):Bool:=decide ((i:Int)∈m.drives)
theorem Kd(m:ak)(d:ba):∀c∈gP m d,hY c=64:=λc a=>by
 unfold gP at a;split at a
 .exact rf m d.l c a
 .exact rf m d.l c (zH _ (List.mem_of_mem_take a))
theorem QW(m:ak)(d:ba):hY (gP m d)<=d.room:=by
 unfold gP;split
 .assumption
 .rw[List.length_take];omega
theorem SY{w:Pow}(f:w.calm){m:ak}{ds:aD}{k:Int}(b:hY ds=64):
  ∃ds',iO m w ds k=(0,w,ds')/\ds'.length=64/\∀s,aH ds' s=if s=k then(aH ds s).map (sI m)else aH ds s:=by
 unfold iO;cases hd:aH ds k with
 |none=>exact⟨ds,hZ,b,λs=>by by_cases a:s=k;rw[f8 a,a,hd];rfl;rw[f9 a]⟩
 |some d=>
  try dsimp only
  have same:(d.lost=ez∨d.l=gP m d)->∃ds',((0:Int),w,ds)=(0,w,ds')/\ds'.length=64/\∀s,aH ds' s=if s=k then(aH ds s).map (sI m)else aH ds s:=λh=>
   ⟨ds,hZ,b,λs=>by
    by_cases a:s=k
    .rw[f8 a,a,hd,qS];unfold sI;rw[f8 h]
    .rw[f9 a]⟩
  by_cases c:d.lost=ez
  .rw[f8 c];exact same (.inl c)
  .rw[f9 c];by_cases e:d.l=gP m d
   .rw[f8 e];exact same (.inr e)
   .rw[f9 e,xW f (Kd m d) l7 (QW m d)];refine⟨_,hZ,by rw[oT];exact b,λs=>?_⟩;rw[ib b hd];by_cases a:s=k
    .rw[f8 a,f8 a,a,hd,qS];unfold sI;rw[f9 (by rintro(h|h);exact c h;exact e h)]
    .rw[f9 a,f9 a]
theorem Ke{w:Pow}(c:w.calm){m:ak}:∀{l:az} {ds:aD},l.Nodup->hY ds=64->
  ∃ds',opens m l w ds=(0,w,ds')/\ds'.length=64/\∀s,aH ds' s=if s∈l then(aH ds s).map (sI m)else aH ds s
 |[],ds,_,h64=>⟨ds,hZ,h64,λs=>i6⟩
 |k::l,ds,a,h64=>by
  obtain⟨g,a⟩:=ya.1 a;obtain⟨h,j,f,i⟩:=SY c (m:=m) (k:=k) h64;obtain⟨o,d,n,e⟩:=Ke c (m:=m) (l:=l) (ds:=h) a f;refine⟨o,?_,n,λs=>?_⟩
  .unfold opens;rw[j];exact d
  .rw[e,i];by_cases b:s=k
   .subst b;simp[g]
   .simp[b]
structure Hi (M:Int->ak) (m:ak) (ds:aD):Prop where
 cur:M m.seq=m
 at_:∀k d,aH ds k=dB d->k∈m.drives
 pg:∀k d,aH ds k=dB d->∀c∈d.l,∀g,cH c=dB g->(1<=g.seq/\g.seq<=m.seq)/\c∈aP (M g.seq)/\k∈(M g.seq).drives
 ok:∀q,1<=q->q<=m.seq->bc (M q)=ez/\(M q).seq=q/\(aP (M q)).length<=2
variable {M:Int->ak} {m n:ak} {ds ds':aD}
theorem Dq{c:aL}(b:bc m=ez)(h:c∈aP m){g:Pg}(a:cH c=dB g):g.seq=m.seq:=by
 rw[jo]at h;obtain⟨i,d,rfl⟩:=qo.1 h;rw[jg b (qz.1 d)]at a;injection a with a
 subst a;rfl
theorem Ih(a:bc m=ez):1<=m.seq:=((dn m).1 ((bU m).1 a).1).1.1
theorem Hi.same(H:Hi M m ds)(i:bc m=ez)(j:∀k a,aH ds' k=dB a->∃d,aH ds k=dB d/\∀c∈a.l,cH c≠et->c∈d.l∨c∈aP m):Hi M m ds':=by
 refine⟨H.cur,λk a e=>?_,λk a e c n g f=>?_,H.ok⟩
 .obtain⟨d,b,_⟩:=j k a e;exact H.at_ k d b
 .obtain⟨d,b,o⟩:=j k a e;rcases o c n (by rw[f];simp)with h|h
  .exact H.pg k d b c h g f
  .rw[Dq i h f,H.cur];exact⟨⟨Ih i,yD _⟩,h,H.at_ k d b⟩
theorem Hi.next(H:Hi M m ds)(r:bc m=ez)(j:bc n=ez)(t:n.seq=m.seq+1)(o:hY (aP n)<=2)(p:∀k a,aH ds' k=dB a->k∈n.drives/\∀c∈a.l,cH c≠et->c∈aP n∨∃d,aH ds k=dB d/\(c∈d.l∨c∈aP m)):
  Hi (λq=>if q=n.seq then n else M q) n ds':=by
 refine⟨i6,λk a b=>(p k a b).1,λk a b c s g f=>?_,λq i h3=>?_⟩
 .obtain⟨i,o⟩:=p k a b;rcases o c s (by rw[f];simp)with h|⟨d,b,h⟩
  .have:=Dq j h f;rw[this,f8 rfl];exact⟨⟨Ih j,yD _⟩,h,i⟩
  .have e:(1<=g.seq/\g.seq<=m.seq)/\c∈aP (M g.seq)/\k∈(M g.seq).drives:=by
    rcases h with h|h
    .exact H.pg k d b c h g f
    .rw[Dq r h f,H.cur];exact⟨⟨Ih r,yD _⟩,h,H.at_ k d b⟩
   rw[f9 ii];exact⟨⟨e.1.1,ii⟩,e.2⟩
 .by_cases h:q=n.seq
  .rw[f8 h];exact⟨j,h.symm,o⟩
  .rw[f9 h];exact H.ok q i ii
theorem aal{d:ba}{N:Int}:∀c∈(ct m d N).l,cH c≠et->c∈d.l∨c∈aP m:=λc a e=>by
 unfold ct at a;split at a
 .exact .inl a
 .rcases qt.1 a with h|h
  .exact .inr h
  .obtain⟨r,b,rfl⟩:=qo.1 h;exact .inl (lh b).1
theorem AY(r:cU):cH (cF r)=et:=by
 by_cases h:ji r=ez
 .exact Dl h
 .unfold cF;rw[f9 h];decide
theorem aam{a:bH}{d:ba}{c:aL}(h:c∈(dD a d).l):c∈d.l∨c∈a:=by
 unfold dD at h;split at h
 .exact .inl h
 .exact qt.1 h
variable {d:ba}
def jG(l:bH):Nat:=l.countP λc=>(dJ c).isSome
theorem Gv(l:bH):jG l<=hY l:=List.countP_le_length
theorem Ii(a b:bH):jG (a++b)=jG a+jG b:=List.countP_append
theorem uj(m:ak):jG (aP m)=0:=List.countP_eq_zero.2 λc a=>by rw[oq a];simp
theorem QX(m:ak):∀l:bH,hY (l.filterMap (jd m))<=jG l
 |[]=>zk _
 |c::l=>by
  have h:=QX m l;unfold jG at h⊢;rw[List.filterMap_cons,List.countP_cons];cases hg:jd m c with
  |none=>dsimp only;omega
  |some r=>rw[(JG hg).1];simp;omega
theorem QY(m:ak)(l:bH):hY (dQ m l)<=jG l:=by unfold dQ;exact qQ (PG _) (by rw[List.length_mergeSort];exact QX m l)
theorem MP(m:ak)(l:bH):hY (bC m l)=hY (aP m)+hY (dQ m l):=by unfold bC kv;rw[qw,qu]
theorem FD(a:bc m=ez):1<=hY (aP m):=vM.2 (HW a)
theorem MQ(a:bc m=ez)(l:bH):jG (bC m l)<=jG l/\jG (bC m l)+1<=hY (bC m l):=by
 have b:=QY m l;have d:=MP m l;have h3:=FD a;have c:jG (bC m l)<=hY (dQ m l):=by unfold bC;rw[Ii,uj,Nat.zero_add];exact qQ (Gv _) (by unfold kv;simp)
 omega
theorem aan(a:bc m=ez){N:Int}:jG (ct m d N).l<=jG d.l/\(jG d.l+1<=hY d.l->jG (ct m d N).l+1<=(ct m d N).l.length):=by
 unfold ct;split
 .exact⟨qm _,id⟩
 .exact⟨(MQ a d.l).1,λ_=>(MQ a d.l).2⟩
theorem aao(a:bc n=ez)(rs:List cU)(d:ba):jG (dD (rs.map cF++aP n) d).l+1+(hY d.l-jG d.l)<=(dD (rs.map cF++aP n) d).l.length:=by have b:=Gv (rs.map cF);have c:=FD a;have h3:=Gv d.l;rw[xZ,Ii,Ii,uj,qw,qw];omega
theorem Kf(f:ByteArray->Nat)(q:ByteArray->Bool):∀l:List ByteArray,((l.filter q).map f).sum<=(l.map f).sum
 |[]=>qm _
 |x::l=>by
  have h:=Kf f q l;rw[List.filter_cons];split
  .simp only[zR,xC];omega
  .simp only[zR,xC];omega
theorem aap{l:List ByteArray}(c:l.Nodup)(h:∀x∈l,x∈rv):(l.map λs=>10+s.size).sum<=70:=by
 haveI:∀a,Decidable (a∈l):=λ_=>Classical.propDecidable _
 have d:rv.Nodup:=j0
 have e:l.Perm (rv.filter λx=>decide (x∈l)):=(List.perm_ext_iff_of_nodup c (d.filter _)).2 λa=>by
  rw[qD];exact⟨λb=>⟨h a b,g0 b⟩,λb=>hU b.2⟩
 rw[(e.map λs=>10+s.size).sum_nat];exact qQ (Kf _ _ _) j0
theorem QZ:∀{l:List Qw.cb},(∀e∈l,e.tries.length<=4)->(l.flatMap ge).length<=((l.map Qw.cb.name).map λs=>10+s.size).sum
 |[],_=>qm _
 |e::l,h=>by
  have b:=QZ λx a=>h x (qA _ a);have c:=h e qF;rw[zb,qw,Zj];simp only[zR,xC];omega
theorem aij(d:bc m=ez)(b:∀k∈m.drives,k<9)(f:∀e∈m.objs,e.name∈rv/\e.length<=3*(m.p.1*m.p.2.2)+1):(aP m).length<=2:=by
 obtain⟨j,u,h3,D,l,r,z⟩:=(bU m).1 d;have y:=(bP m.p).1 ((dn m).1 j).2.2.1;have s:0<m.p.1*m.p.2.2:=Int.mul_pos ii ii;have o:∀e∈m.objs,e.tries.length<=4:=λe a=>by
  have q:=(gr m e).1 (l e a);have B:=(f e a).2;have t:countP m.p e.length<=4:=by
   unfold countP;split
   .have:(e.length-1)/(m.p.1*m.p.2.2)<4:=Int.ediv_lt_of_lt_mul s (by rw[Int.mul_comm 4];omega);omega
   .decide
  omega
 have n:(m.objs.map Qw.cb.name).Nodup:=yl.2 (r.imp λh=>AR h);have v:=aap n λx a=>by
  obtain⟨e,c,rfl⟩:=qo.1 a;exact(f e c).1
 have w:=QZ o;have a3:=Mr d;have a4:m.drives.length<=((qx 9).map λi:Nat=>(i:Int)).length:=nB (mq d) λk g=>by
  have h0:=h3 k g;have A:=b k g;exact qo.2 ⟨k.toNat,qz.2 ii,ii⟩
 rw[qu,zC]at a4;rw[JK];omega
variable {B:av} {h0 h:f7} {As L:List HP} {X:HP} {k:Kit} {b:eS} {da:List bD}
section
variable {pw:eS} {n:Nat}
theorem aa.aik(f:n<hY L)(H:aa B h0 h (HP.all L::X::As)):aa B h0 h (HP.all (L.set n X)::As):=by
 have j:=(H.jw:aa B h0 h (X.sep (HP.all L)::As))
 have k:aa B h0 h ((X::L)++As):=aa.lI (L:=X::L) j;refine aa.closeAll _ (k.pick (λi=>if i=n then 0 else i+1) (λa b d=>by(try dsimp only at d);split at d<;>split at d<;>omega) λi A e=>?_)
 try dsimp only
 by_cases c:i=n
 .subst c;rw[ql m6,List.getElem?_set_self f]at e;rw[f8 rfl];exact e
 .rw[f9 c,List.cons_append,qq];by_cases g:i<hY L
  .rw[ql m0,zG (Ne.symm c)]at e;rw[ql g];exact e
  .rw[qi i5,zE]at e;rw[qi ii];exact e
theorem aa.agb(c:L[n]?=dB X)(H:aa B h0 h (HP.all L::As)):aa B h0 h (X::HP.all (L.set n emp)::As):=by have a:=(qk.1 c).1;have b:=(aa.lI H).cons n (A:=X) (by rw[ql a];exact c);rw[List.set_append_left _ _ a]at b;exact(aa.closeAll (X::L.set n emp) b).mD.ie
structure mI (da:List bD) (ds:aD):Prop where
 len:hY da=hY ds
 same:∀i:Nat,(da.getD i et).isSome=(ds.getD i et).isSome
def gC(k:Kit)(pw:eS)(a:List bD)(ds:aD):HP:=(HP.all (dq k pw a ds)).and (mI a ds)
theorem mI.addr(ok:mI da ds)(c:ds[n]?=dB (dB d)):∃b,da[n]?=dB (dB b):=by
 have f:=(qk.1 c).1;have a:=ok.same n;rw[qd,qd,c]at a;have g:n<hY da:=by rw[ok.len];exact f
 rw[qc g]at a⊢;simp at a;obtain⟨b,e⟩:=yA.1 a;exact⟨b,by rw[e]⟩
theorem mI.uX(ok:mI da ds)(b:ds[n]?=dB et):da[n]?=dB et:=by
 have c:=(qk.1 b).1;have a:=ok.same n;rw[qd,qd,b]at a;have d:n<hY da:=by rw[ok.len];exact c
 rw[qc d]at a⊢;simp at a;rw[a]
theorem mI.set(ok:mI da ds):mI (da.set n (dB b)) (ds.set n (dB d)):=by
 refine⟨by simp[ok.len],λi=>?_⟩;have:=ok.same i;have e:=ok.len;simp only[qd,qW]at this⊢;by_cases a:n=i
 .rw[f8 a,f8 a];by_cases c:n<hY ds
  .rw[f8 c,f8 ii];rfl
  .rw[f9 c,f9 ii];rfl
 .rw[f9 a,f9 a];exact this
theorem aaq(e:hY da=hY ds):(dq k pw da ds).set n (gU k.tD (k.f pw) b d)=dq k pw (da.set n (dB b)) (ds.set n (dB d)):=by
 apply zt;intro j;simp only[dq,qW,zL,List.length_zipWith];by_cases a:n=j
 .subst a;by_cases c:n<hY ds
  .rw[f8 hZ,f8 ii,f8 hZ,f8 ii,f8 hZ,f8 c];rfl
  .rw[f8 hZ,f9 ii,f8 hZ,f9 ii]
 .simp[a]
def aeN(k:Kit)(pw:eS)(a:List bD)(ds:aD)(n:Nat):HP:=(HP.all ((dq k pw a ds).set n emp)).and (mI a ds)
theorem aa.Rb(H:aa B h0 h (gC k pw da ds::As))(c:ds[n]?=dB (dB d)):∃b,da[n]?=dB (dB b)/\aa B h0 h (gU k.tD (k.f pw) b d::aeN k pw da ds n::As):=by obtain⟨H,ok⟩:=H.pE;obtain⟨b,a⟩:=ok.addr c;have e:=aa.agb (n:=n) (X:=gU k.tD (k.f pw) b d) (by simp only[dq,zL,a,c];rfl) H;exact⟨b,a,(e.ie.topE ok).ie⟩
theorem aa.aar(g:da[n]?=dB (dB b))(H:aa B h0 h (gU k.tD (k.f pw) b d::aeN k pw da ds n::As)):aa B h0 h (gC k pw da (ds.set n (dB d))::As):=by
 obtain⟨H,ok⟩:=H.ie.pE;have m:=(qk.1 g).1;have j:=ok.len;have c:=aa.aik (n:=n) (by simp[dq];omega) H;rw[yz,aaq j]at c;have e:da.set n (dB b)=da:=by
  obtain⟨i,l⟩:=qk.1 g
  conv=>lhs;rw[<-l]
  exact List.set_getElem_self i
 have a:mI (da.set n (dB b)) (ds.set n (dB d)):=ok.set;rw[e]at c a;exact c.topE a
theorem aa.aas{a:eS}{b:aT}{offs:Int}{w:Pow}(H:aa B h0 h (bf k a pw b offs da w ds::As)):fM b da ds/\aa B h0 h (gC k pw da ds::ce k.tP pw w::aj a k.tS (bS b pw offs da)::As):=by obtain⟨H,ok⟩:=H.pE;have c:aa B h0 h (HP.all (ce k.tP pw w::dq k pw da ds)::aj a k.tS (bS b pw offs da)::As):=H.mD;have d:aa B h0 h (HP.all (dq k pw da ds)::ce k.tP pw w::aj a k.tS (bS b pw offs da)::As):=c.mD;exact⟨ok,d.topE ⟨by rw[ok.la,ok.ls],ok.same⟩⟩
theorem aa.ail{a:eS}{b:aT}{offs:Int}{w:Pow}(h8:hY b=8)(c:hY ds=64)(H:aa B h0 h (gC k pw da ds::ce k.tP pw w::aj a k.tS (bS b pw offs da)::As)):aa B h0 h (bf k a pw b offs da w ds::As):=by obtain⟨H,ok⟩:=H.pE;have d:aa B h0 h (HP.all (ce k.tP pw w::dq k pw da ds)::aj a k.tS (bS b pw offs da)::As):=H.jw;have e:aa B h0 h (HP.all (aj a k.tS (bS b pw offs da)::ce k.tP pw w::dq k pw da ds)::As):=d.jw;exact e.topE ⟨h8,by rw[ok.len,c],c,ok.same⟩
theorem aa.aim(q:Nat->Bool)(p:hY ds<=64)(H:aa B h0 h (gC k pw da ds::As)):aa B h0 h (gC k pw (gj q da) (gj q ds)::As):=by
 obtain⟨H,ok⟩:=H.pE;have r:=ok.len;have n:=aa.acg (aa.lI H) 64;obtain⟨M,l⟩:=x6 (dq k pw da ds)
 rw[<-l]at n;have j:hY M=hY ds:=by rw[l];simp[dq];omega
 have f:∀i,i<64->(dq k pw (gj q da) (gj q ds))[i]?=dB (if q i=ez/\i<hY ds then M.getD i emp else emp):=λi d=>by
  simp only[dq,zL,px _ _ _ d];congr 1;cases hq:q i with
  |false=>simp[aca]
  |true=>
   simp only[if_true,true_and];by_cases hid:i<hY ds
   .rw[f8 hid,l];simp only[dq,qd,zL,qc hid,qc (show i<hY da by omega)];rfl
   .rw[f9 hid];simp only[qd,qJ (show ds.length<=i by omega),qJ (show da.length<=i by omega)];rfl
 have g:hY (dq k pw (gj q da) (gj q ds))=64:=by simp[dq,gj]
 have o:aa B h0 h (dq k pw (gj q da) (gj q ds)++As):=by
  refine n.pick (λi=>if i<64 then(if q i=ez/\i<hY ds then 64+i else i)else i+hY ds) (λa b c=>j3) λi A d=>?_
  try dsimp only
  by_cases e:i<64
  .rw[ql ii,f i e]at d;rw[f8 e];by_cases m:q i=ez/\i<hY ds
   .rw[f8 m]at d⊢;rw[qi i6,w4,Nat.add_sub_cancel_left,ql ii];rw[qd,qc ii]at d;rw[qc ii];exact d
   .rw[f9 m]at d⊢;rw[ql lc,zU,f8 e];exact d
  .rw[f9 e];rw[qi ii,g]at d;rw[qi i5,w4,qi ii,j,show i+hY ds-64-hY ds=i-64 by omega];exact d
 refine(aa.closeAll _ o).topE ⟨by simp[gj],λi=>?_⟩;by_cases e:i<64
 .rw[qd,qd,px _ _ _ e,px _ _ _ e];cases q i
  .rfl
  .exact ok.same i
 .rw[qd,qd,qJ (by simp[gj];omega),qJ (by simp[gj];omega)];rfl
end
variable {t t2 e eb:Nat} {z:aT} {by_:Nat} {α:Type} {p:av} {v:Sl} {f:α->aT} {l l2:List α} {a:eS} {pre post:aT}
section
variable {C:Ctx} {ty k:Nat}
theorem bQ.Rc(w:C.Ok)(A:bL C.toBH t e k z by_)(r:∀x,hY (f x)=k)(j:bQ h a eb (pre++l.flatMap f++post))(y:Seq h p v k f l2)(i:hY l2=hY l)(d:∀x,∀c∈f x,c.oneCell'=ez){n q D:Nat}(u:n=hY pre)(H:q=hY l){K:Int->f7->Prop}
  (G:∀h',bQ h' a eb (pre++l2.flatMap f++post)->aS (λb=>b≠a.block) h h'->K l2.length h'):
  bx C.P (yh #[t,t2] ty #[.slice (dB (a.add n)) q D,v]) (.one (.sc (.int .i64))) h K:=by
 unfold bx yh;simp only[List.getElem?_toArray,List.getElem?_cons_zero,qq];refine au.bind (au.always (aF (A.under w)) ?_);refine au.bind (au.pure' ?_);refine au.bind (au.always (A.size w) ?_);have o:=y.len;have g:Nat.min v.len q=v.len:=wz ii;rw[g];refine au.bind (gw r y ?_);have F:=j.addr;have E:a.add n=⟨a.block,0+n,et⟩:=by
  conv=>lhs;rw[F]
  simp[Addr.add];omega
 rw[E];refine au.bind ?_;have m:=j.fm;refine fc (e:=eb) (pre:=pre) (old:=l.flatMap f) (post:=post) m (by rw[dm r,dm r,i]) ii ?_ ?_
 .intro c B;obtain⟨x,_,s⟩:=zI.1 B;exact d x c s
 .refine au.pure' ⟨_,by rw[goInt,o],G _ ⟨j.off,j.spot,?_⟩ (aS.jD m λu=>u hZ)⟩;rw[iA m,f8 rfl]
theorem aa.Rc(r:C.Ok)(H:aa B h0 h As)(i:Nat)(m:As[i]?=dB (aj a eb (pre++l.flatMap f++post)))(w:bL C.toBH t e k z by_)(s:∀x,hY (f x)=k)(u:Seq h p v k f l2)(d:hY l2=hY l)(b:∀x,∀c∈f x,c.oneCell'=ez){n j q:Nat}(o:n=hY pre)(g:j=hY l){K:Int->f7->Prop}
  (A:∀h',aa B h0 h' (As.set i (aj a eb (pre++l2.flatMap f++post)))->K l2.length h'):
  bx C.P (yh #[t,t2] ty #[.slice (dB (a.add n)) j q,v]) (.one (.sc (.int .i64))) h K:=
 (H.box i m).Rc r w s u d b o g λh' x y=>A h' (H.um i m y x)
end
variable {w:Pow}
section
variable {pw:eS}
theorem SZ(s t:Sl)(l k:bH)(h:f7)(d:fe h s 1 aB l)(c:fe h t 1 aB k)(B:hY l<=2^30):
  ai xT 119 #[s,t,.func (.func 121) #[] #[]] h λv h'=>v=xN (decide (l=k))/\h'=h:=by
 refine ts Tryz.func119 ?_ (v7 (v7 (wj [(17,aU)] [(6,10),(17,32)]))) (args:=[s,t,(.func (.func 121) #[] #[])]);have m:=d.len;have E:=c.len;refine bA (λe=>?_) (λe=>?_)
 .refine⟨?_,hZ⟩;rw[g9];intro u;rw[u]at m;omega
 have f:hY l=hY k:=ii
 refine aq (λi:Nat=>(i:Int)) (λi h'=>i<=hY l/\(∀j (o:j<hY l),j<i->l[j]=(k[j]'ii))/\h'=h) (λi=>hY l-i) 0 hZ ⟨ii,λj _ o=>ii,hZ⟩ ?_;rintro i m ⟨H,g,rfl⟩;refine af (λe=>?_) (λe=>?_)
 .have b:i<hY l:=by have z:(i:Int)<(s.len:Int):=e;omega
  obtain⟨rs,d⟩:=d;obtain⟨ts,c⟩:=c;refine d.UT i hZ b λa r _ A x=>?_;refine c.UT i hZ ii λG q _ D p=>dV hZ ?_;refine(ku r q l[i] (k[i]'ii) m (d.row i r l[i] x (qc b)) (c.row i q _ p (qc ii))).xa ⟨_,hZ,aW (λw=>?_) λw=>?_⟩
  .refine⟨?_,hZ⟩;rw[g9];intro u;refine of_decide_eq_false w ?_;simp only[u]
  .refine⟨i+1,i9,⟨ii,λj o y=>?_,hZ⟩,ii⟩;rcases Nat.lt_succ_iff_lt_or_eq.1 y with h3|rfl
   .exact g j o h3
   .exact hU w
 .have z:¬(i:Int)<(s.len:Int):=e;refine⟨?_,hZ⟩;rw[g0];exact List.ext_getElem f λj h3 F=>g j h3 ii
theorem agc:∀x,∀c∈mA x,c.oneCell'=ez:=by intro x c a;simp only[mA,qp]at a;subst a;rfl
theorem Kg(b:aT)(pw:eS)(offs:Int)(a:List bD):bS b pw offs a=(b++[xL (dB pw),xJ xP offs])++a.flatMap mA++[]:=by
 have:a.flatMap mA=a.map .pointer:=by induction a<;>simp_all [mA]
 simp[bS,this]
theorem ain:bL C.toBH 121 57 1 [xL et] 8:=⟨⟨_,_,hZ,hZ,hZ,hZ,hZ,hZ⟩⟩
theorem Ta(x:bh)(m:ak)(l:Int)(v:Sl)(c:List bD)(h:f7)(j:cR h x m)(q:bc m=ez)(D:Rd h v 1 mA c)(E:hY c=64)(o:bQ h pw 118 (powC w l)):
  ai xT 128 #[dK x,xL (dB pw),v] h λr h'=>∃(a:eS) (y:bh),r=xL (dB a)/\Sp h h' [bI y m,aj a 127 (bS (aM y) pw w.offs c)]:=by
 refine ts Tryz.func128 ?_ (v7 (ws [] [(6,7),(8,15)] u9)) (args:=[x,(dB pw),v]);have p:=im q;refine(Sp.refl h).boxed λz s i=>?_;refine aG ⟨x,(i.box 0 hZ).aA _ hZ,(CS x m s (j.up i.ac) p).xc λu A=>?_⟩;have f:=i.comp A;refine⟨_,hZ,aW (λe=>by rw[q]at e;cases e) λ_=>aY (λe=>jj) λ_=>?_⟩;refine⟨x,(f.box 0 hZ).aA _ hZ,(CW x m u (j.up f.ac) p).x0 λy h3 B=>?_⟩;have k:=f.comp B;refine⟨y,hZ,(EL l (o.ac k.ac o.lt)).xa ?_⟩;refine⟨_,hZ,_,Mf y pw w.offs,k.boxed λa9 F g=>?_⟩;have b:(Value.agg (bS (aM y) pw w.offs (qg 64 et)).toArray).cells.toList=bS (aM y) pw w.offs (qg 64 et):=j7
 rw[b,Kg]at g;refine⟨a9,hZ,?_⟩;refine g.Rc ae 2 hZ ain (λ_=>rfl) (Seq.up D g.ac) (by simp[E]) agc hZ i6 λt d=>?_;have d:Sp h t [aj z 85 (aM x),bI y m,aj a9 127 ((aM y++[xL (dB pw),xJ xP w.offs])++c.flatMap mA++[])]:=d;rw[<-Kg]at d;exact⟨a9,y,hZ,d.bt [1,2]⟩
end
section
variable {pw:eS} {n:Nat}
theorem aa.WW(H:aa B h0 h (gC bi pw da ds::As)):mI da ds:=H.pE.2
theorem aa.aat(H:aa B h0 h (gC bi pw da ds::As)){b:eS}(g:da[n]?=dB (dB b))(i:ds[n]?=dB (dB d)):gO d/\∃s t:Sl,bQ h b 155 (ft pw d s t)/\fe h s 1 aB d.l:=by
 obtain⟨j,a,c⟩:=H.Rb i;rw[g]at a;injection a with a
 injection a with a
 subst a;obtain⟨s,t,e,f,_⟩:=jN.box (c:aa B h0 h (jN pw b d::_));obtain⟨ok,_⟩:=c.pT;exact⟨ok,s,t,e,f⟩
end
section
variable {pw:eS}
theorem Ny{l:az}{j:Nat}(a:j<hY l)(x:Int):x∈l.take (j+1)↔x∈l.take j∨x=l[j]:=by rw[aE _ _ a,qt,qp]
def WX(B:av)(b:f7)(As:List HP)(pw:eS)(c:List bD)(ds:aD)(w:Pow)(v:Value)(h':f7):Prop:=
 (ja ds=et->v=.tuple #[xL et,xJ xP 11]/\aa B b h' (gC bi pw c ds::ce 118 pw w::As))/\
  ∀m,ja ds=dB m->((opens m m.drives w ds).1≠0->v=.tuple #[xL et,xJ xP (opens m m.drives w ds).1]/\aa B b h' (gC bi pw c (opens m m.drives w ds).2.2::ce 118 pw (opens m m.drives w ds).2.1::As))/\
   ((opens m m.drives w ds).1=0->∃a:eS,v=.tuple #[xL (dB a),xJ xP 0]/\aa B b h' (bu a pw (gj (mT m) c) (opens m m.drives w ds).2.1.offs (opens m m.drives w ds).2.1 (gj (mT m) (opens m m.drives w ds).2.2) m::As))
theorem aau(s:Sl)(hS:St B h0 As λh=>Rd h s 1 mA da)(hn:hY ds<=64)(b1:s.len<=s.cap)(hj:∀d,dB d∈ds->hY (gh d.l)<20)(ao:∀m,ja ds=dB m->bc m=ez)
  (H:aa B h0 h (gC bi pw da ds::ce 118 pw w::As)):ai xT 71 #[xL (dB pw),s] h λv h'=>
  WX B h0 As pw da ds w v h':=by
 refine ts Tryz.func71 ?_ (v7 (v7 (v7 (v7 (v7 (v7 (u7 (v7 (v1 (v2 [(32,aU)] [(4,6),(10,14),(32,71)] (v7 (v7 (u7 (v1 (v7 (ws [] [(36,47)] u9))) u9)))))) u9)))))));have a3:=hS.at [_,_] H;have W:=H.WW;have b6:=a3.len;have br:=W.len;have a6:(if(64:Int)<(s.len:Int)then(64:Int)else(s.len:Int))=(s.len:Int):=f9 ii;rw[a6];refine aY (λe=>jj) λ_=>⟨⟨ii,ii⟩,?_⟩
 simp only[qj];refine(SX (pw:=pw) s da ds h a3 br hn λi p d A hd=>?_).mono ?_
 .cases d with
  |none=>
   have:=W.uX hd;rw[A]at this;injection this with this
   subst this;trivial
  |some d=>
   obtain⟨b,M⟩:=W.addr hd;rw[A]at M;injection M with M
   subst M;obtain⟨ok,s1,t1,q1,q2⟩:=H.aat A hd;exact⟨ok,hj d (zZ hd),s1,t1,q1,q2⟩
 rintro _ h1 ⟨x,rfl,_,R1⟩;have H1:=H.ci R1;refine⟨(x,(ja ds).isSome),hZ,H1.alloc ae hZ λQ h2 H2=>?_⟩;have H2:=H2.aZ;refine H2.storeAll ae 0 hZ hZ (aM x) hZ hZ hZ hZ λh3 H3=>?_;refine aW (λe=>⟨λ_=>⟨hZ,H3.aJ 4 [2,3]⟩,λm hm=>by rw[hm]at e;cases e⟩) λe=>?_;obtain⟨m,hm⟩:∃m,ja ds=dB m:=yA.1 e;have hM:=ao m hm;rw[hm]at H3;have hz:=im hM;have b0:=gM hM;have V:∀{v:Value} {h':f7},(((opens m m.drives w ds).1≠0->v=.tuple #[xL et,xJ xP (opens m m.drives w ds).1]/\aa B h0 h' (gC bi pw da (opens m m.drives w ds).2.2::ce 118 pw (opens m m.drives w ds).2.1::As))/\
   ((opens m m.drives w ds).1=0->∃a:eS,v=.tuple #[xL (dB a),xJ xP 0]/\aa B h0 h' (bu a pw (gj (mT m) da) (opens m m.drives w ds).2.1.offs (opens m m.drives w ds).2.1 (gj (mT m) (opens m m.drives w ds).2.2) m::As)))->WX B h0 As pw da ds w v h':=λ{v h'} S=>by
  unfold WX;refine⟨λh=>(by rw[hm]at h;cases h),λm' N=>?_⟩;rw[hm]at N;injection N with N
  subst N;exact S
 refine H3.make ae mA ain i0 et hZ hZ 64 64 hZ hZ (qm _) i0 λo h4 b5 b3 H4=>?_;have H4:=H4.aZ.aJ 5 [3,4,2,1,0];refine⟨x.2.2.2.2.2.2.1,(H4.box 3 hZ).cell hZ,?_⟩;refine aq (λj:Nat=>(j:Int)) (λj h'=>j<=hY m.drives/\∃(g:Pow) (f:aD) (k:List bD),opens m m.drives w ds=opens m (m.drives.drop j) g f/\f.length=hY ds/\k.length=64/\
   (∀i:Nat,i<64->k[i]?=dB (if(i:Int)∈m.drives.take j then da.getD i et else et))/\
   aa B h0 h' (gC bi pw da f::ce 118 pw g::bI x m::aj Q 85 (aM x)::an 57 o 1 mA k::As)) (λj=>hY m.drives-j) 0 hZ
  ⟨zk _,w,ds,_,hZ,hZ,i6,λi R=>by rw[zU,f8 R];simp,H4⟩ ?_
 rintro j h5 ⟨b4,g,f,k,J,a0,X,G,L⟩
 try dsimp only
 have hx:cR h5 x m:=L.at 2 hZ;have bs:=hx.drives.len;have a1:=hS.at [_,_,_,_,_] L;have ax:=L.WW;refine af (λe=>?_) λe=>?_
 .have r:j<hY m.drives:=by have e':(j:Int)<(x.2.2.2.2.2.2.1.len:Int):=e;omega
  refine hx.drives.bo j hZ r m.drives[j] hZ ?_;obtain⟨n,ab⟩:∃n:Nat,m.drives[j]=(n:Int):=⟨m.drives[j].toNat,by have:=gv hM _ (qf r);omega⟩
  have b2:n<64:=by have:=gv hM _ (qf r);omega
  rw[ab];have al:m.drives.drop j=(n:Int)::m.drives.drop (j+1):=by rw[qL r,ab]
  have q:opens m (m.drives.drop j) g f=if(iO m g f n).1=0 then opens m (m.drives.drop (j+1)) (iO m g f n).2.1 (iO m g f n).2.2 else iO m g f n:=by rw[al];rfl
  have E:∀i:Nat,((i:Int)∈m.drives.take (j+1))↔((i:Int)∈m.drives.take j)∨i=n:=λi=>by
   rw[Ny r,ab];constructor
   .rintro(h|h);exact .inl h;exact .inr ii
   .rintro(h|h);exact .inl h;exact .inr ii
  have ad:aH f (n:Int)=(f[n]?).join:=by unfold aH;rw[f8 ii,qj]
  have wr:qe xP ((j:Int)+1)=((j+1:Nat):Int):=i9
  rw[wr];have skip:aH f (n:Int)=et->da.getD n et=et->∃K,(((j+1:Nat):Int))=((K:Nat):Int)/\(K<=hY m.drives/\∃(g:Pow) (f:aD) (k:List bD),opens m m.drives w ds=opens m (m.drives.drop K) g f/\f.length=hY ds/\k.length=64/\
   (∀i:Nat,i<64->k[i]?=dB (if(i:Int)∈m.drives.take K then da.getD i et else et))/\
   aa B h0 h5 (gC bi pw da f::ce 118 pw g::bI x m::aj Q 85 (aM x)::an 57 o 1 mA k::As))/\m.drives.length-K<hY m.drives-j:=λh1 h2=>by
   refine⟨j+1,hZ,⟨r,g,f,k,?_,a0,X,λi R=>?_,L⟩,ii⟩
   .rw[J,q];have:iO m g f n=(0,g,f):=by unfold iO;rw[h1]
    rw[this,f8 rfl]
   .rw[G i R];by_cases t:i=n
    .subst t;rw[h2];simp
    .have:((i:Int)∈m.drives.take (j+1))↔((i:Int)∈m.drives.take j):=by rw[E];simp[t]
     simp only[this]
  refine aG (af (λe2=>?_) λe2=>?_)
  .have e2:(n:Int)>=(s.len:Int):=e2;refine skip ?_ ?_
   .rw[ad,qJ ii];rfl
   .rw[qd,qJ ii];rfl
  .have e2:¬(n:Int)>=(s.len:Int):=e2;have P:n<hY da:=ii
   have bq:n<hY f:=ii
   obtain⟨p,A⟩:∃p,da[n]?=dB p:=⟨_,qc P⟩
   obtain⟨dd,z⟩:∃dd,f[n]?=dB dd:=⟨_,qc bq⟩
   have ap:da[n]=p:=by rw[qc P]at A;injection A
   refine a1.mU n hZ P p (by rw[ap]) λa8 _=>?_;cases dd with
   |none=>
    have:=ax.uX z;rw[A]at this;injection this with this
    subst this;refine aY (λ_=>skip (by rw[ad,z];rfl) (by rw[qd,A];rfl)) λe=>jj
   |some d=>
    obtain⟨b,M⟩:=ax.addr z;rw[A]at M;injection M with M
    subst M;refine aY (λe=>jj) λ_=>a1.mU n hZ P (dB b) (by rw[ap]) λb7 _=>?_;refine L.set ae 4 hZ (λ_=>rfl) hZ n hZ ii (dB b) hZ hZ hZ λh6 U=>?_;have Z:∀i:Nat,i<64->(k.set n (dB b))[i]?=dB (if(i:Int)∈m.drives.take (j+1)then da.getD i et else et):=λi R=>by
     rw[qW];by_cases t:n=i
     .subst t;rw[f8 hZ,f8 ii,f8 ((E n).2 (.inr hZ)),qd,A];rfl
     .have:((i:Int)∈m.drives.take (j+1))↔((i:Int)∈m.drives.take j):=by rw[E];simp[Ne.symm t]
      rw[f9 t,G i R];simp only[this]
    have I:aH f (n:Int)=dB d:=by rw[ad,z];rfl
    have next:∀{h':f7} (w':Pow) (d':aD),iO m g f n=(0,w',d')->hY d'=hY f->aa B h0 h' (gC bi pw da d'::ce 118 pw w'::bI x m::aj Q 85 (aM x)::an 57 o 1 mA (k.set n (dB b))::As)->
      ∃K,(((j+1:Nat):Int))=((K:Nat):Int)/\(K<=hY m.drives/\∃(g:Pow) (f:aD) (k:List bD),opens m m.drives w ds=opens m (m.drives.drop K) g f/\f.length=hY ds/\k.length=64/\
   (∀i:Nat,i<64->k[i]?=dB (if(i:Int)∈m.drives.take K then da.getD i et else et))/\
   aa B h0 h' (gC bi pw da f::ce 118 pw g::bI x m::aj Q 85 (aM x)::an 57 o 1 mA k::As))/\m.drives.length-K<hY m.drives-j:=λ{h'} w' d' ho hl' H'=>
     ⟨j+1,hZ,⟨r,w',d',_,by rw[J,q,ho,f8 rfl],by rw[hl',a0],by simp[X],Z,H'⟩,ii⟩
    obtain⟨O,s1,t1,q1,q2⟩:=U.aat A z;refine(sT s1 t1 q1).xa ⟨_,hZ,aY (λel=>next g f (by unfold iO;rw[I];(try dsimp only);rw[f8 el]) hZ U) λel=>?_⟩;refine⟨x,(U.box 3 hZ).aA _ hZ,(aaj s1 t1 x m q1 q2 O (U.at 2 hZ) hz).x0 λr7 h7 R7=>?_⟩;have a5:=q1.ac R7.ac q1.lt;have a7:=q2.up R7.ac;refine⟨r7,hZ,(uW s1 t1 a5 a7 O).x0 λr8 h8 R8=>?_⟩;have ah:=R7.comp R8;have k1:=O.len;have k2:=O.room;have kl:=QW m d;refine⟨r8,hZ,(SZ r8 r7 d.l (gP m d) h8 ((ah.aJ 2 [1]).uG λ_=>rfl) (ah.uG λ_=>rfl) ii).xa ?_⟩;have ay:¬d.lost=ez:=by rw[el];decide
    have H8:=U.up ah.ac;refine⟨_,hZ,aY (λee=>next g f (by unfold iO;rw[I];(try dsimp only);rw[f9 ay,f8 (hU ee)]) hZ H8) λee=>?_⟩;have bk:=of_decide_eq_false ee;have H9:=(U.ci R7).up R8.ac;obtain⟨rs,H9⟩:=H9.Pw λ_=>rfl;obtain⟨b',u,Y⟩:=(H9.ie).Rb z;rw[A]at u;injection u with u
    injection u with u
    subst u;have Y:=Y.aJ 4 [0,3,1,2];refine(wf r7 (gP m d) Y (St.ey 1 hZ λh' hq=>?_) ii λc hc=>by rw[Kd m d c hc];decide).mono ?_
    .exact⟨rs,hq.1,hq.2.1,hq.2.2⟩
    rintro _ a9 ⟨rfl,bb⟩;have D:iO m g f n=((d.rewrite g (gP m d)).1,(d.rewrite g (gP m d)).2.1,cu f n (d.rewrite g (gP m d)).2.2):=by unfold iO;rw[I];(try dsimp only);rw[f9 ay,f9 bk]
    have am:aa B h0 a9 (gC bi pw da (f.set n (dB (d.rewrite g (gP m d)).2.2))::ce 118 pw (d.rewrite g (gP m d)).2.1::bI x m::aj Q 85 (aM x)::an 57 o 1 mA (k.set n (dB b))::As):=aa.aar A (bb.aJ 7 [0,2,1,4,5,6]);have bd:cu f (n:Int) (d.rewrite g (gP m d)).2.2=f.set n (dB (d.rewrite g (gP m d)).2.2):=by unfold cu;rw[qj]
    rw[bd]at D;refine⟨_,hZ,bA (λF=>V ⟨λ_=>?_,λar=>?_⟩) λF=>next _ _ (by rw[D,F]) i6 am⟩
    .have:opens m m.drives w ds=iO m g f n:=by rw[J,q,D,f9 F]
     rw[this,D];exact⟨hZ,am.aJ 5 [0,1]⟩
    .exfalso;have:opens m m.drives w ds=iO m g f n:=by rw[J,q,D,f9 F]
     rw[this,D]at ar;exact F ar
 .have e':¬(j:Int)<(x.2.2.2.2.2.2.1.len:Int):=e;have a4:j=hY m.drives:=ii
  have T:opens m m.drives w ds=(0,g,f):=by rw[J,a4,yw];rfl
  obtain⟨lw,b9,U⟩:=aa.rQ (L.ie:aa B h0 h5 (ce 118 pw g::gC bi pw da f::_));have bl:k=gj (mT m) da:=by
   refine zt λi=>?_;by_cases R:i<64
   .rw[G i R,px _ _ _ R,a4,qM];unfold mT;by_cases S:(i:Int)∈m.drives
    .rw[f8 S,g0 S];rfl
    .rw[f9 S,g9 S];rfl
   .rw[qJ ii,qJ (by rw[AX];omega)]
  refine⟨x,(L.box 3 hZ).aA _ hZ,(Ta (w:=g) x m lw o k h5 hx hM (L.seq 4 hZ λ_=>rfl) X (U.box 0 hZ)).mono ?_⟩;rintro _ h7 ⟨a,y,rfl,R7⟩;refine⟨dB a,hZ,V ⟨λS=>absurd (by rw[T]) S,λ_=>⟨a,hZ,?_⟩⟩⟩;rw[T]
  try dsimp only
  have e1:(gC bi pw da f::ce 118 pw g::bI x m::aj Q 85 (aM x)::an 57 o 1 mA k::As)++[bI y m,aj a 127 (bS (aM y) pw g.offs k)]=((gC bi pw da f::ce 118 pw g::bI x m::aj Q 85 (aM x)::an 57 o 1 mA k::As)++[bI y m])++[aj a 127 (bS (aM y) pw g.offs k)]:=i6
  have H7:=L.comp R7;rw[e1,bl]at H7;have H8:aa B h0 h7 ((aj a 127 (bS (aM y) pw g.offs (gj (mT m) da))::gC bi pw da f::ce 118 pw g::bI x m::aj Q 85 (aM x)::an 57 o 1 mA (gj (mT m) da)::As)++[bI y m]):=H7.aZ;have H9:=H8.aZ.aJ 7 [2,3,1,0];exact ny (aa.ail hZ (AX _ _) (aa.aim (mT m) ii H9))
end
theorem WY{m:ak}(a:bc m=ez)(l:bH):fx m (bC m l)=ez:=by unfold fx;rw[a,zS];exact qK.2 λc b=>g0 (ze _ b)
theorem agd{m:ak}{d:ba}(a:d.lost=eH)(c:hY (bC m d.l)<=d.room):(sI m d).lost=eH/\(sI m d).l=bC m d.l:=by
 have b:gP m d=bC m d.l:=by unfold gP;rw[f8 c]
 unfold sI;split
 .rename_i h;rcases h with h|h
  .rw[a]at h;cases h
  .exact⟨a,h.trans b⟩
 .exact⟨a,b⟩
theorem aav{D:aD}(b:hY D=64){d:ba}(h:dB d∈D):∃k,aH D k=dB d:=by obtain⟨i,c,a⟩:=List.getElem_of_mem h;refine⟨(i:Int),?_⟩;unfold aH;rw[f8 ii,qj,qc c,a];rfl
theorem at_mem{D:aD}{d:ba}{k:Int}(h:aH D k=dB d):dB d∈D:=by
 unfold aH at h;split at h
 .cases hx:D[k.toNat]? with
  |none=>rw[hx]at h;cases h
  |some o=>rw[hx]at h;have:o=dB d:=h;rw[<-this];exact zZ hx
 .cases h
structure ajH (m:ak) (d:ba):Prop where
 lost:d.lost=eH
 room:d.room=90
 len:hY d.l<=40
 few:hY (gh d.l)<20
theorem FE(H:Hi M m ds){k:Int}{d:ba}(o:aH ds k=dB d){x:ak}(h:x∈gh d.l):x=M x.seq/\(1<=x.seq/\x.seq<=m.seq)/\k∈x.drives/\bc x=ez:=by
 obtain⟨e,p⟩:=HY h;have i:=Dh e;have f:=jg e i;obtain⟨a,b,c⟩:=H.pg k d o (nW x 0).cell (p _ (by rw[jo];exact qo.2 ⟨0,qz.2 i,hZ⟩)) _ f;have a:1<=x.seq/\x.seq<=m.seq:=a;have c:k∈(M x.seq).drives:=c;obtain⟨r,j,_⟩:=H.ok x.seq a.1 a.2;have n:x=M x.seq:=MB r (λc q g f s=>by
  have:=(H.pg k d o c q g f).2.1;rw[s,j]at this;exact this) h j.symm
 exact⟨n,a,by rw[n];exact c,e⟩
theorem WZ{c:List Pg}{out:List ak}{x:Pg}(h:out.Nodup):(dZ c out x).Nodup:=by
 unfold dZ;split
 .exact h
 .split
  .exact h
  .split
   .exact h
   .split
    .exact h
    .rename_i m _ f;refine List.nodup_append.2 ⟨h,i6,λa d b g e=>f ?_⟩;rw[qp.1 g]at e;exact z7.2 ⟨a,d,g0 (by rw[e])⟩
theorem Kh{a:List Pg}:∀(xs:List Pg) {out:List ak},out.Nodup->(xs.foldl (dZ a) out).Nodup
 |[],_,h=>h
 |x::xs,_,h=>Kh xs (WZ h)
theorem Xa(l:bH):(gh l).Nodup:=(List.mergeSort_perm _ _).nodup_iff.2 (Kh _ List.nodup_nil)
theorem adl(H:Hi M m ds)(j:m.seq<=10){k:Int}{d:ba}(c:aH ds k=dB d):hY (gh d.l)<20:=by
 have h:((gh d.l).map ak.seq).Nodup:=yl.2 ((Xa d.l).imp_of_mem λ{a b} ha hb hne e=>hne (by rw[(FE H c ha).1,(FE H c hb).1,e]));have:=nB h (m:=(qx 11).map λi:Nat=>(i:Int)) λq g=>by
  obtain⟨x,f,rfl⟩:=qo.1 g;have:=(FE H c f).2.1;exact qo.2 ⟨x.seq.toNat,qz.2 ii,ii⟩
 simp only[qu,zC]at this;omega
theorem Tb(d:bc m=ez):(aP m).Nodup:=by
 rw[jo];refine yl.2 (List.nodup_range.imp_of_mem λ{a b} ha hb hne e=>hne ?_);have c:=jg d (qz.1 ha);rw[e,jg d (qz.1 hb)]at c;injection c with c
 have:((b:Nat):Int)=a:=congrArg Pg.num c;omega
theorem aaw(d:bc m=ez){l:bH}(a:fx m l=ez):hY (bC m l)<=hY l:=by
 have e:=QY m l;have g:=MP m l;have h3:hY (aP m)<=hY (l.filter λc=>!(dJ c).isSome):=nB (Tb d) λc b=>by
  refine qD.2 ⟨?_,by rw[oq b];rfl⟩;unfold fx at a;rw[qy,qK]at a;exact hU (a.2 c b)
 have f:hY l=jG l+hY (l.filter λc=>!(dJ c).isSome):=by
  rw[<-List.countP_eq_length_filter];unfold jG;rw[List.length_eq_countP_add_countP λc=>(dJ c).isSome];congr 2;funext c
  cases(dJ c).isSome<;>rfl
 omega
def aio(m:ak)(ds:aD):Prop:=∀k d,aH ds k=dB d->d.lost=eH->jG d.l+2<=d.room∨fx m d.l=ez
def cL(m:ak):az->Pow->aD->Int×Pow×aD
 |[],w,ds=>(0,w,ds)
 |k::l,w,ds=>match aH ds k with
  |none=>cL m l w ds
  |some d=>if d.l=bC m d.l then cL m l w ds else
   if(d.rewrite w (bC m d.l)).1=0 then cL m l (d.rewrite w (bC m d.l)).2.1 (cu ds k (d.rewrite w (bC m d.l)).2.2)
   else((d.rewrite w (bC m d.l)).1,(d.rewrite w (bC m d.l)).2.1,cu ds k (d.rewrite w (bC m d.l)).2.2)
theorem Tc(a b:Sl)(c d:bH)(h:f7)(p:fe h a 1 aB c)(q:fe h b 1 aB d)(z:hY c<=2^30):
  ai xT 119 #[a,b,.func (.func 121) #[] #[]] h λv h'=>v=xN (decide (c=d))/\h'=h:=by
 refine ts Tryz.func119 ?_ (v7 (v7 (wj [(17,aU)] [(6,10),(17,32)]))) (args:=[a,b,(.func (.func 121) #[] #[])]);have g:=p.len;have o:=q.len;refine bA (λe=>⟨?_,hZ⟩) λe=>?_
 .rw[g9 λh=>e (by rw[g,o,h])]
 have u:hY c=hY d:=ii
 refine aq (λi:Nat=>(i:Int)) (λi h'=>i<=hY c/\c.take i=d.take i/\h'=h) (λi=>hY c-i) 0 hZ ⟨ii,i6,hZ⟩ ?_;rintro i s ⟨y,k,rfl⟩;refine af (λj=>?_) (λj=>?_)
 .have f:i<hY c:=by have w:(i:Int)<(a.len:Int):=j;omega
  refine p.get i hZ f λr t=>q.get i hZ ii λx l=>dV kt ?_;refine(ku r x _ _ s t l).xa ⟨_,hZ,aW (λm=>⟨?_,hZ⟩) λm=>?_⟩
  .rw[g9 λh=>of_decide_eq_false m (by simp only[h])]
  .refine⟨i+1,i9,⟨ii,?_,hZ⟩,ii⟩;rw[aE _ _ f,aE _ _ (show i<hY d by omega),k,hU m]
 .have w:¬(i:Int)<(a.len:Int):=j;rw[qh ii,qh ii]at k;exact⟨by rw[g0 k],hZ⟩
abbrev fI(a:eS)(y:bh)(b:Sl)(t most k:Int):aT:=xL (dB a)::(aM y++[xK b.ptr b.len b.cap,xJ xP t,xJ xP most,xJ xP k])
variable {offs:Int}
section
variable {pw:eS}
theorem Td{k:Int}{d:ba}{b:eS}(x:Sl)(l:bH)(t:St B h0 As λh=>fe h x 1 aB l)(A:hY l<=2^20)(p:∀c∈l,hY c<=2^20)(f:aH ds k=dB d)(j:gH da k=dB b)(H:aa B h0 h (bu a pw da offs w ds m::As)):
  ai xT 114 #[xL (dB b),x] h λv h'=>v=xJ xP (d.rewrite w l).1/\aa B h0 h' (bu a pw da offs (d.rewrite w l).2.1 (cu ds k (d.rewrite w l).2.2) m::As):=by
 obtain⟨y,H⟩:=gc H;obtain⟨ok,_⟩:=aa.cE H;obtain⟨n,rfl,E⟩:=mb f;have D:ds[n]?=dB (dB d):=by
  unfold aH at f;rw[f8 ii,qj]at f;cases hX:ds[n]? with
  |none=>rw[hX]at f;cases f
  |some o=>rw[hX]at f;exact congrArg dB f
 obtain⟨z,g,s⟩:=Qw.aa.kV H D;have i:z=b:=by unfold gH at j;rw[f8 ii,qj,g]at j;injection j
 subst i;refine(wf x l s (λBs h' u=>(t.cons.cons) Bs h' u) A p).mono ?_;rintro _ h' ⟨rfl,q⟩;have r:=Qw.aa.uY (k:=bi) (n:=n) g q;refine⟨hZ,?_⟩;have e:cu ds (n:Int) (d.rewrite w l).2.2=ds.set n (dB (d.rewrite w l).2.2):=by simp only[cu,qj]
 rw[e];exact ny r
theorem Nz{m:ak}{l:bH}(b:cC m)(d:hY l<=512):hY (bC m l)<=4000/\∀c∈bC m l,hY c<=64:=by
 refine⟨?_,λc a=>?_⟩
 .have:=ke m b;have:=uf m l;unfold bC;rw[qw];omega
 .unfold bC at a;rcases qt.1 a with a|a
  .exact Nat.le_of_eq (tU a)
  .exact GO a
theorem Xb{c:eS}(y:bh)(K:Sl)(live:az)(t most k:Int)(hm:bc m=ez)(hl:hY live<=64)(u:∀k∈live,∃d,aH ds k=dB d)
  (V:St B h0 As λh=>bQ h c 108 (fI a y K t most k)/\cR h y m/\Rd h K 1 aw live) (H:aa B h0 h (bu a pw da offs w ds m::As)):
  ai xT 61 #[xL (dB c)] h λv h'=>v=xJ xP (cL m live w ds).1/\aa B h0 h' (bu a pw da offs (cL m live w ds).2.1 (cL m live w ds).2.2 m::As):=by
 refine ts Tryz.func61 ?_ (v7 (wj [(13,aU)] [(2,3),(4,8),(13,40)]));have W:=im hm;have z:=V.at [_] H;have ab:=z.2.2.len;refine⟨c,hZ,K,z.1.cell hZ,?_⟩;refine aq (λt:Nat×Pow×aD=>(t.1:Int)) (λt h'=>t.1<=hY live/\(∀k∈live,∃d,aH t.2.2 k=dB d)/\cL m live w ds=cL m (live.drop t.1) t.2.1 t.2.2/\aa B h0 h' (bu a pw da offs t.2.1 t.2.2 m::As)) (λt=>hY live-t.1) (0,w,ds) hZ ⟨ii,u,hZ,H⟩ ?_;rintro⟨i,o,ds1⟩ h1 ⟨hi,f,g,p⟩;dsimp only at hi f g p⊢;obtain⟨x,hy,R⟩:=V.at [_] p;refine af (λe=>?_) λe=>?_
 .have q:i<hY live:=ii
  obtain⟨d,r⟩:=f live[i] (qf q);obtain⟨b,N⟩:=Ub r p;refine R.bo i hZ q live[i] hZ ⟨c,hZ,dB a,x.cell0 hZ,(Mt _ p).xa ?_⟩;rw[N];obtain⟨s,U,J,q2,G⟩:=Qi r N p;have X:=G.len;have T:=G.room;obtain⟨k1,k2⟩:=Nz W (show d.l.length<=512 by omega);refine⟨_,hZ,c,hZ,y,x.cells 1 _ hZ,(AO s U y m J q2 G hy W).x0 λj h3 F=>?_⟩;refine⟨j,hZ,(uW s U (J.ac F.ac J.lt) (q2.up F.ac) G).x0 λD Y P=>?_⟩;have Q:fe Y j 1 aB (bC m d.l):=(F.uG λ_=>rfl).up P.ac;refine⟨D,hZ,(Tc D j _ _ Y (P.uG λ_=>rfl) Q ii).xa ?_⟩;have S:live.drop i=live[i]::live.drop (i+1):=qL q;have Z:=(p.ci F).up P.ac;refine⟨_,hZ,af (λI=>?_) λI=>?_⟩
  .refine⟨(i+1,o,ds1),i7,⟨i4,f,?_,Z.aJ 1 []⟩,i4⟩;rw[g,S];show cL m (live[i]::live.drop (i+1)) o ds1=cL m (live.drop (i+1)) o ds1;rw[cL,r]
   try dsimp only
   rw[f8 I]
  .obtain⟨rs,M⟩:=Z.Pw λ_=>rfl;have M:=M.aJ 2 [1,0];refine(Td j (bC m d.l) (St.ey (A:=dI (cz 1 aB) 1 bn j rs (bC m d.l)) 0 hZ λh' O=>⟨rs,O.1,O.2.1,O.2.2⟩) ii (λc hc=>by have:=k2 c hc;omega) r N M).xc λh6 E=>?_;have E:=E.aJ 2 [0];refine⟨_,hZ,bA (λL=>?_) λL=>?_⟩
   .have ec:cL m live w ds=((d.rewrite o (bC m d.l)).1,(d.rewrite o (bC m d.l)).2.1,cu ds1 live[i] (d.rewrite o (bC m d.l)).2.2):=by
     rw[g,S,cL,r]
     try dsimp only
     rw[f9 I,f9 L]
    rw[ec];exact⟨hZ,E⟩
   .refine⟨(i+1,(d.rewrite o (bC m d.l)).2.1,cu ds1 live[i] (d.rewrite o (bC m d.l)).2.2),i7,⟨i4,λk hk=>?_,?_,E⟩,i4⟩
    .try dsimp only
     rw[ib (jJ p).1 r];split
     .exact⟨_,hZ⟩
     .exact f k hk
    .try dsimp only
     rw[g,S,cL,r]
     try dsimp only
     rw[f9 I,f8 (by simpa using L)]
 .have:i=hY live:=ii
  subst this;rw[yw]at g;rw[g];exact⟨hZ,p⟩
end
def mB(W:cg)(id:Int):Bool:=W.any λl=>decide (id∈l)
def BA(W:cg):Nat:=W.flatten.foldr (λx a=>max a x.toNat) 0
theorem Re{x:Int}:∀{l:az},x∈l->x.toNat<=l.foldr (λx a=>max a x.toNat) 0
 |[],h=>j8
 |y::l,h=>by
  rw[List.foldr_cons];rcases qT.1 h with rfl|h
  .omega
  .have:=Re h;omega
theorem Lo{W:cg}{x:Int}(h:x∈W.flatten):x.toNat<=BA W:=Re h
theorem Lp{W:cg}{i:Nat}(h:mB W (i:Int)=ez):i<=BA W:=by unfold mB at h;rw[z7]at h;obtain⟨l,a,b⟩:=h;have:=Lo (vI.2 ⟨l,a,hU b⟩);omega
def rj(W:cg):Nat->Nat->Nat
 |0,i=>i
 |f+1,i=>if mB W (i:Int)then rj W f (i+1)else i
def fk(W:cg):Nat:=rj W (BA W+1) 0
theorem BB(W:cg):∀f i,BA W<f+i->mB W (rj W f i:Int)=eH/\i<=rj W f i/\∀j,i<=j->j<rj W f i->mB W (j:Int)=ez
 |0,i,h=>by
  refine⟨?_,qm _,λj g d=>absurd d (by unfold rj;omega)⟩;cases e:mB W ((rj W 0 i:Nat):Int)with
  |false=>rfl
  |true=>have:=Lp e;unfold rj at this;omega
 |f+1,i,h=>by
  unfold rj;cases e:mB W (i:Int)with
  |false=>rw[f9 i0];exact⟨e,qm _,λj g d=>ii⟩
  |true=>
   rw[f8 rfl];obtain⟨a,b,c⟩:=BB W f (i+1) ii;refine⟨a,ii,λj g d=>?_⟩;by_cases k:j=i
   .rw[k];exact e
   .exact c j ii d
theorem aax(W:cg):mB W (fk W:Int)=eH:=(BB W _ 0 ii).1
theorem FF{W:cg}{j:Nat}(h:j<fk W):mB W (j:Int)=ez:=(BB W _ 0 ii).2.2 j (zk _) h
theorem Xc{W:cg}{i:Nat}(a:mB W (i:Int)=eH)(b:∀j,j<i->mB W (j:Int)=ez):fk W=i:=by
 rcases Nat.lt_trichotomy (fk W) i with h|h|h
 .have:=b _ h;rw[aax W]at this;cases this
 .exact h
 .have:=FF h;rw[a]at this;cases this
theorem Rf(W:cg):fk W<=BA W+1:=by
 cases e:fk W with
 |zero=>omega
 |succ n=>have:=Lp (FF (W:=W) (j:=n) ii);omega
def gW(live:az)(s:Int):Int:=match live.idxOf? s with|some k=>(k:Int)|none=>-1
def jr(m:ak)(c:aL)(w:Pow)(ds:aD)(s:Int)(d:ba):Int×Pow×aD:=
 let r:=fG m w d 1
 if r.1≠0 then(r.1,r.2.1,cu ds s r.2.2)else
  let q:=r.2.2.append r.2.1 c
  (q.1,q.2.1,cu (cu ds s r.2.2) s q.2.2)
def gm(m:ak)(live set:az)(order:az)(c:aL)(id:Nat)(w:Pow)(ds:aD):List Nat->(Int×Pow×aD)×Int×Int
 |[]=>((7,w,ds),0,0)
 |i::l=>
  let s:=fS order ((id:Int)+i)
  match aH ds s with
  |none=>gm m live set order c id w ds l
  |some d=>if gW live s∈set∨ir m d 1=eH then gm m live set order c id w ds l
   else(jr m c w ds s d,gW live s,s)
structure jC where
 o:Int
 b:Int
 seed:Int
 M:aN
 W:cg
 got:az
 deriving Inhabited
def jC.Ki(x:jC)(m:ak)(id:Nat):cU:=⟨x.o,x.b,id,m.p,x.seed,if bW id then gq m.p.2.2.toNat x.M (dz (bG m.p).toNat x.seed id)else[]⟩
def jC.BC(x:jC)(id:Nat)(k s:Int):jC:={x with W:=x.W.set k.toNat (x.W.getD k.toNat []++[(id:Int)]),got:=x.got++[s]}
def fa(m:ak)(live set:az)(w:Pow)(ds:aD)(x:jC):Int×Pow×aD×jC:=
 let id:=fk x.W;let o:=dM x.o x.b live;let r:=gm m live set o (cF (x.Ki m id)) id w ds (qx o.length)
 (r.1.1,r.1.2.1,r.1.2.2,if r.1.1=0 then x.BC id r.2.1 r.2.2 else x)
def db(m:ak)(live:az)(t most:Int):Nat->Pow->aD->jC->Int×Pow×aD×jC
 |0,w,ds,x=>(12,w,ds,x)
 |f+1,w,ds,x=>
  let r:=iL m.p x.seed x.W t
  if r.2.2≠0 then(r.2.2,w,ds,x)else if r.2.1=eH then(0,w,ds,x)else if(hY x.got:Int)>=most then(12,w,ds,x)else
   let q:=fa m live r.1 w ds x
   if q.1≠0 then q else db m live t most f q.2.1 q.2.2.1 q.2.2.2
theorem Te(l:Sl)(r:az)(c:eS)(x:Int)(h:f7)(b:bQ h c 3 [xJ xP x])(d:Rd h l 1 aw r)(a:hY r<=2^30):
  ai xT 299 #[l,xL (dB c)] h λv h'=>v=xN (decide (x∈r))/\h'=h:=by
 refine ts Tryz.func299 ?_ (args:=[l,c]);refine⟨x,b.cell0 hZ,(tC l r x h d a).xa ?_⟩;exact⟨_,hZ,hZ,hZ⟩
theorem Tf(s:Sl)(W:cg)(c:eS)(x:Int)(h:f7)(p:bQ h c 3 [xJ xP x])(g:fe h s 1 aw W)(q:hY W<=2^20)(m:∀l∈W,hY l<=2^20):
  ai xT 298 #[s,.func (.func 299) #[] #[xL (dB c)]] h λv h'=>v=xN (mB W x)/\h'=h:=by
 refine ts Tryz.func298 ?_ (args:=[s,(.func (.func 299) #[] #[xL (dB c)])]);refine(py s (299,#[],#[xL (dB c)]) (R:=λv h'=>(∃i:Int,v=xJ xP i/\(decide (i>=0)=mB W x))/\h'=h) ?_).mono ?_
 .skip
  have n:=g.len;refine aq (λi:Nat=>(i:Int)) (λi h'=>i<=hY W/\mB (W.take i) x=eH/\h'=h) (λi=>hY W-i) 0 hZ ⟨ii,by simp[mB],hZ⟩ ?_;rintro i k ⟨j,b,rfl⟩;refine af (λe=>?_) λe=>?_
  .have a:i<hY W:=by have o:(i:Int)<(s.len:Int):=e;omega
   refine g.get i hZ a λr d=>dV kt ?_;refine(Te r W[i] c x k p d (by have:=m _ (qf a);omega)).xa ⟨_,hZ,af (λf=>⟨⟨i,hZ,?_⟩,hZ⟩) λf=>?_⟩
   .rw[g0 (show(i:Int)>=0 by omega)]
    symm
    unfold mB;rw[z7];exact⟨_,qf a,g0 f⟩
   .refine⟨i+1,i9,⟨ii,?_,hZ⟩,ii⟩;unfold mB at b⊢;rw[aE _ _ a,List.any_append,b,List.any_cons,List.any_nil,g9 f];rfl
  .have o:¬(i:Int)<(s.len:Int):=e;rw[qh ii]at b;exact⟨⟨-1,hZ,by rw[b];rfl⟩,hZ⟩
 .rintro _ _ ⟨⟨i,rfl,j⟩,rfl⟩;exact⟨i,hZ,by rw[j],hZ⟩
abbrev lX(x:jC)(a:bD)(wS gS:Sl):aT:=[xJ xP x.o,xJ xP x.b,xJ xR x.seed,.pointer a,wS,gS]
theorem Tg(b:eS)(x:jC)(s:bD)(wS gS:Sl)(h:f7)(k:bQ h b 183 (lX x s wS gS))(o:fe h wS 1 aw x.W)(t:hY x.W<=2^20)(p:∀l∈x.W,hY l<=2^20)(y:BA x.W<=2^40):
  ai xT 243 #[xL (dB b)] h λv h'=>v=xJ xP (fk x.W)/\Sp h h' []:=by
 refine ts Tryz.func243 ?_ (v7 (v7 (u7 (v1 (v2 [] [(4,12)] u9)) u9)));refine(Sp.refl h).alloc ae hZ λc u r=>?_;refine r.storeAll ae 0 hZ hZ [xJ xP 0] hZ hZ hZ hZ λw q=>?_;refine aq (λ_:Nat=>()) (λi h'=>i<=BA x.W+1/\(∀j,j<i->mB x.W (j:Int)=ez)/\Sp h h' [aj c 3 [xJ xP i]]) (λi=>BA x.W+1-i) 0 hZ ⟨ii,λj m=>ii,q⟩ ?_;rintro i h3 ⟨z,a,d⟩;refine⟨b,hZ,wS,(k.ac d.ac k.lt).cell hZ,(Tf wS x.W c i h3 (d.box 0 hZ) (o.up d.ac) t p).xa ?_⟩;refine⟨_,hZ,aY (λe=>?_) λe=>?_⟩
 .have:=Lp e;refine⟨i,(d.box 0 hZ).cell0 hZ,d.storeAll ae 0 hZ hZ [xJ xP (qe xP ((i:Int)+1))] hZ hZ hZ hZ λA f=>?_⟩;refine⟨i+1,hZ,⟨ii,λj m=>?_,?_⟩,ii⟩
  .by_cases g:j=i
   .rw[g];exact e
   .exact a j ii
  .have f:=f;rw[ag _]at f;exact f
 .refine⟨i,(d.box 0 hZ).cell0 hZ,?_,.zip d.ac⟩;rw[Xc e a]
section
variable {pw:eS}
theorem adm{k:Int}{d:ba}{b:eS}(y:bh)(n:Int)(l:aH ds k=dB d)(i:gH da k=dB b)(g:cR h y m)(j:cC m)(H:aa B h0 h (bu a pw da offs w ds m::As)):
  ai xT 111 #[xL (dB b),dK y,xJ xP n] h λv h'=>v=xN (ir m d n)/\Sp h h' []:=by
 obtain⟨s,e,f,c,o⟩:=Qi l i H;exact Fa s e y m n f c c.len o g j
theorem MR{k:Int}{d:ba}{b:eS}(c:aH ds k=dB d)(j:gH da k=dB b)(H:aa B h0 h (bu a pw da offs w ds m::As)):
  ∃p A2:HP,aa B h0 h (jN pw b d::ce 118 pw w::p::A2::As)/\
   ∀h' l g,aa B h0 h' (jN pw b g::ce 118 pw l::p::A2::As)->aa B h0 h' (bu a pw da offs l (cu ds k g) m::As):=by
 obtain⟨y,H⟩:=gc H;obtain⟨n,rfl,v⟩:=mb c;have u:ds[n]?=dB (dB d):=by
  unfold aH at c;rw[f8 ii,qj]at c;cases hX:ds[n]? with
  |none=>rw[hX]at c;cases c
  |some o=>rw[hX]at c;exact congrArg dB c
 obtain⟨t,f,s⟩:=Qw.aa.kV H u;have i:t=b:=by unfold gH at j;rw[f8 ii,qj,f]at j;injection j
 subst i;refine⟨_,_,s,λh' l g q=>?_⟩;have r:=Qw.aa.uY (k:=bi) (n:=n) f q;have e:cu ds (n:Int) g=ds.set n (dB g):=by simp only[cu,qj]
 rw[e];exact ny r
theorem adn{k:Int}{d:ba}{b:eS}(y:bh)(n:Int)(i:St B h0 As λh=>cR h y m)(g:cC m)(j:aH ds k=dB d)(f:gH da k=dB b)(H:aa B h0 h (bu a pw da offs w ds m::As)):
  ai xT 55 #[xL (dB b),dK y,xJ xP n] h λv h'=>v=xJ xP (fG m w d n).1/\aa B h0 h' (bu a pw da offs (fG m w d n).2.1 (cu ds k (fG m w d n).2.2) m::As):=by
 obtain⟨l,A2,e,back⟩:=MR j f H;refine(Mi y m n i.cons.cons g e).mono ?_;rintro _ h' ⟨rfl,c⟩;exact⟨hZ,back _ _ _ c⟩
theorem Xd{k:Int}{d:ba}{b:eS}(x:Sl)(row:aL)(e:Rd h x 1 aB row)(c:hY row<=2^20)(j:aH ds k=dB d)(i:gH da k=dB b)(H:aa B h0 h (bu a pw da offs w ds m::As)):
  ai xT 116 #[xL (dB b),x] h λv h'=>v=xJ xP (d.append w row).1/\aa B h0 h' (bu a pw da offs (d.append w row).2.1 (cu ds k (d.append w row).2.2) m::As):=by
 obtain⟨l,A2,g,back⟩:=MR j i H;refine(GI x row g e c).mono ?_;rintro _ h' ⟨rfl,f⟩;exact⟨hZ,back _ _ _ f⟩
theorem ado(s:Sl)(l:az)(d:St B h0 As λh=>Rd h s 1 aw l)(e:hY l<=2^30)(b:∀x∈l,0<=x/\x<64)(H:aa B h0 h (bu a pw da offs w ds m::As)):
  ai xT 117 #[.func (.func 56) #[xL (dB a)] #[],s] h λv h'=>v=xJ xP (eO (cI l) w ds).1/\aa B h0 h' (bu a pw da offs (eO (cI l) w ds).2.1 (eO (cI l) w ds).2.2 m::As):=by
 obtain⟨y,H⟩:=gc H;refine(Jl s l d.cons e b H).mono ?_;rintro _ h' ⟨rfl,c⟩;exact⟨hZ,ny c⟩
theorem Th(y:bh)(s:Sl)(c:az)(o b:Int)(e:cR h y m)(f:cC m)(g:Rd h s 1 aw c)(l:hY c<=2^10)(j:∀k∈c,∃d,aH ds k=dB d)(H:aa B h0 h (bu a pw da offs w ds m::As)):
  ai xT 87 #[.func (.func 56) #[xL (dB a)] #[],s,dK y,xJ xP o,xJ xP b] h λv h'=>∃(r:Sl) (i:List (Int×Sl)),v=r/\Sp h h' [dI mS 2 piv r i (eG m ds c o b)]:=by
 obtain⟨x,H⟩:=gc H;exact xV y m s c o b e f g l j H
end
theorem rk(ds:aD)(k:Int)(d e:ba):cu (cu ds k d) k e=cu ds k e:=by unfold cu;rw[yz]
theorem adp{live:az}{s i:Int}(d:0<=i↔s∈live)(k:0<=i->live[i.toNat]?=dB s/\∀j,j<i.toNat->live[j]?≠dB s)(h3:-1<=i):gW live s=i:=by
 unfold gW;by_cases c:0<=i
 .obtain⟨a,b⟩:=k c;have e:live.idxOf? s=dB i.toNat:=by unfold List.idxOf?;rw[List.findIdx?_eq_some_iff_getElem];obtain⟨m,f⟩:=qk.1 a;refine⟨m,by rw[f];simp,λj g=>?_⟩;have:=b j g;rw[qc ii]at this;simpa using λh=>this (by rw[h])
  rw[e]
  try dsimp only
  omega
 .have e:live.idxOf? s=et:=by unfold List.idxOf?;rw[List.findIdx?_eq_none_iff];intro z l;have:s∉live:=λh=>c (d.2 h);simp only[beq_eq_false_iff_ne];rintro rfl;exact this l
  rw[e]
  try dsimp only
  omega
theorem Ti(k:Int)(b:aL):hY (eT k b)<=64:=by
 by_cases h:1<=k/\k<=255/\b.length<=55
 .rw[mJ h.1 h.2.1 h.2.2];exact qm _
 .unfold eT;rw[f9 h];exact zk _
theorem Lq{o:az}{i:Int}(a:o≠[])(d:0<=i:=by omega):fS o i∈o:=by unfold fS;rw[f9 λh=>h.elim a λh=>ii];have e:0<hY o:=vM.2 a;have b:=Int.emod_nonneg i (show(hY o:Int)≠0 by omega);have c:=Int.emod_lt_of_pos i (show(0:Int)<hY o by omega);unfold JB;rw[qd,qc ii];exact qf _
theorem Dr{o b s:Int}{l:az}(h:s∈dM o b l):s∈l:=by
 unfold dM at h;split at h
 .exact((Fg _ _ _).1 h).1
 .cases h
theorem adq(l:az):hY (iK l)<=hY l:=by
 have:=PW l l.length
 rwa [qh (qm _)]at this
theorem Xe(o b:Int)(l:az):hY (dM o b l)<=hY l:=by
 unfold dM;split
 .rw[(Da _ _).length_eq];exact adq l
 .simp
structure nD (m:ak) (live:az) (x:jC):Prop where
 seed:0<=x.seed/\x.seed<4294967296
 ev:aV m.p.2.2.toNat x.M
 ml:hY x.M=(bG m.p).toNat
 wl:hY x.W=hY live
 rl:∀l∈x.W,hY l<=2^12+hY x.got
 top:BA x.W<=2^20+hY x.got
 gl:hY x.got<=64
 gi:∀s∈x.got,s∈live
theorem Seq.age{h:f7}{p:av}{s:Sl}{rs:List Sl}(g:Qw.Seq h p s 1 bn rs){n:Nat}(i:n<hY rs){a:eS}(f:s.ptr=dB a):cellOf h (a.add (n*1))=dB (.slice rs[n].ptr rs[n].len rs[n].cap):=by
 obtain⟨b,o,c,j,e⟩:=g.elem n rs[n] (qc i);rw[f]at c;injection c with c
 subst c;have d:=e.1;rw[add_eq,wE]at d;rw[add_eq];exact d
def Ij(s:Sl)(W:cg)(k:Nat)(rs:List Sl):HP:=HP.all (an 22 s 1 bn rs::(bw 3 1 aw rs W).set k emp)
variable {s:Sl} {W:cg}
section
variable {k:Nat}
theorem Rh(H:aa B h0 h As):aa B h0 h (emp::As):=(H.comp (.one (A:=emp) (aS.refl _ _) x7)).aZ
theorem aip(e:k<hY W)(H:aa B h0 h (fy 22 s 3 1 aw W::As)):
  ∃(rs:List Sl) (p:eS) (b:hY rs=hY W),s.ptr=dB p/\s.len=hY W/\aa B h0 h (an 3 (rs[k]'ii) 1 aw W[k]::Ij s W k rs::As):=by
 obtain⟨rs,b,a⟩:=H.Ar;have j:=(a.own 0 hZ).len;obtain⟨p,o,f,_⟩:=(a.seq 0 rfl λ_=>rfl).elem k (rs[k]'ii) (qc ii);have g:=(Rh a).aJ 2 [1,0];have d:=(aa.TT k (iw b k e) g).aJ 3 [0,2];have i:aa B h0 h ([an 3 (rs[k]'ii) 1 aw W[k]]++((an 22 s 1 bn rs::(bw 3 1 aw rs W).set k emp)++As)):=d;have c:=i.front;rw[List.append_assoc]at c;exact⟨rs,_,b,f,ii,(aa.closeAll _ c).aZ⟩
theorem agf{rs:List Sl}{p:eS}(i:Nat){Bs:List HP}(e:hY rs=hY W)(d:k<hY W)(c:s.ptr=dB p)(b:Bs[i]?=dB (Ij s W k rs))(H:aa B h0 h Bs):cellOf h (p.add (k*1))=dB (.slice (rs[k]'ii).ptr (rs[k]'ii).len (rs[k]'ii).cap):=by have a:=(H.cons i b).lI;exact(a.seq 0 hZ λ_=>rfl).age ii c
theorem aiq{rs:List Sl}{v:Sl}{l:az}{x:Int}(f:hY rs=hY W)(n:k<hY W)(g:x=k)(H:aa B h0 h (an 3 v 1 aw l::Ij s W k rs::As)){K:f7->Prop}
  (j:∀h',aa B h0 h' (fy 22 s 3 1 aw (W.set k l)::As)->K h'):
  ∃a:eS,(s.ptr=dB a/\0<=x/\x<((s.len:Nat):Int))/\au xT (qH 22 (xL (dB (a.add (x.toNat*1)))) (xK v.ptr v.len v.cap)) h λ_ h'=>K h':=by
 have m:=H.ie.lI;refine m.set ae 0 hZ (λ_=>rfl) hZ k g ii v hZ hZ hZ λh' i=>j h' ?_;have b:hY (bw 3 1 aw rs W)=hY W:=by simp[bw];omega
 have d:=i.cons (hY W+1) (A:=an 3 v 1 aw l) (by
  show((an 22 s 1 bn (rs.set k v)::((bw 3 1 aw rs W).set k emp++an 3 v 1 aw l::As)))[hY W+1]?=_;rw[qq,qi mn];simp[b])
 have e:((an 22 s 1 bn (rs.set k v)::((bw 3 1 aw rs W).set k emp++an 3 v 1 aw l::As))).set (hY W+1) emp=an 22 s 1 bn (rs.set k v)::((bw 3 1 aw rs W).set k emp++emp::As):=by rw[List.set_cons_succ,List.set_append_right _ _ mn];simp[b]
 have d:aa B h0 h' (an 3 v 1 aw l::an 22 s 1 bn (rs.set k v)::((bw 3 1 aw rs W).set k emp++emp::As)):=by rw[<-e];exact d
 have c:=(aa.Gl k ii ((Rh d).aJ 3 [1,0,2])).aJ 2 [0];have c:aa B h0 h' (an 22 s 1 bn (rs.set k v)::((bw 3 1 aw rs W).set k (an 3 v 1 aw l)++emp::As)):=c;rw[lp f]at c;exact(aa.Ee qa c).aJ 2 [0]
end
def sq(b a:eS)(x:jC):HP:=HP.ex λp:Sl×Sl=>(aj b 183 (lX x (dB a) p.1 p.2)).sep ((fy 22 p.1 3 1 aw x.W).sep (an 3 p.2 1 aw x.got))
variable {cd:eS} {x:jC}
theorem Gw(H:aa B h0 h (sq b cd x::As)):∃wS gS:Sl,aa B h0 h (an 3 gS 1 aw x.got::fy 22 wS 3 1 aw x.W::aj b 183 (lX x (dB cd) wS gS)::As):=by obtain⟨⟨wS,gS⟩,H⟩:=H.pD;exact⟨wS,gS,H.mD.mD⟩
theorem Ag{wS gS:Sl}(H:aa B h0 h (an 3 gS 1 aw x.got::fy 22 wS 3 1 aw x.W::aj b 183 (lX x (dB cd) wS gS)::As)):aa B h0 h (sq b cd x::As):=
 aa.uF (F:=λp:Sl×Sl=>(aj b 183 (lX x (dB cd) p.1 p.2)).sep ((fy 22 p.1 3 1 aw x.W).sep (an 3 p.2 1 aw x.got))) (wS,gS) H.jw.jw
section
variable {pw:eS}
theorem aay{c b K:eS}(y:bh)(L g:Sl)(live set:az)(t most k:Int)(x:jC)(hm:bc m=ez)(hp:bK m.p=ez)(hl:hY live<=64)(a6:∀k∈live,∃d,aH ds k=dB d)(hk:0<=k/\k<=2^40)(F:nD m live x)(eq:hY set<=2^20)
  (hS:St B h0 As λh=>cR h y m/\Rd h L 1 aw live/\Rd h g 1 aw set/\wm h K m.p x.seed x.M)
  (H:aa B h0 h (bu a pw da offs w ds m::aj c 108 (fI a y L t most k)::sq b K x::As)):
  ai xT 190 #[xL (dB c),xL (dB b),g] h λv h'=>v=xJ xP (fa m live set w ds x).1/\
   aa B h0 h' (bu a pw da offs (fa m live set w ds x).2.1 (fa m live set w ds x).2.2.1 m::aj c 108 (fI a y L t most (if(fa m live set w ds x).1=0 then k+1 else k))::sq b K (fa m live set w ds x).2.2.2::As):=by
 refine ts Tryz.func190 ?_ (v7 (v7 (v7 (u7 (v7 (v1 (v2 [(33,aU)] [(6,7),(9,16),(33,140)] (v7 (v7 (u7 (v1 (v7 (v7 (v7 (v7 (ws [] [(53,65)] (v7 (ws [(14,(.sc .adr))] [(14,15),(74,99)] (v7 (ws [] [(106,132)] u9)))))))))) u9)))))) u9)))) [(13,(.y [0,1,2,3,4,5,6,7,8,9,10,11,12,13,14,15,16,17,18,19,20,21,22] (.l [23,24,25,26]) (.l [25,23,24,26]))),(17,(.y [0,1,2,3,4,5,6,7,8,9,10,11,12,13,16,17,18,19,20] (.y [14] (.l [15,21,22,23,24,25,26,27]) (.l [21,15,22,23,24,25,26,27])) (.l [21,14,15,22,23,24,25,26,27])))];obtain⟨wS,gS,H1⟩:=Gw (H.aJ 3 [2,0,1]);have ao:=H1.box 2 hZ;have cl:=H1.box 4 hZ;have c5:fe h wS 1 aw x.W:=aa.uG (H1.aJ 2 [1,0]) λ_=>rfl;have eb:=F.gl;have cc:∀l∈x.W,hY l<=2^13:=λl hl=>by have:=F.rl l hl;omega
 obtain⟨id,hid⟩:=x6 (fk x.W)
 have d3:id<=2^21:=by have:=Rf x.W;have:=F.top;omega
 refine(Tg b x (dB K) wS gS h ao c5 (by rw[F.wl];omega) (λl hl=>by have:=cc l hl;omega) (by have:=F.top;omega)).xc λh1 R1=>?_;rw[<-hid];have H1:=H1.up R1.ac;have c8:=(hS.cons.cons.cons.cons.cons).here H1;obtain⟨ef,a8,d6,eg⟩:=c8;have ao:=H1.box 2 hZ;have cl:=H1.box 4 hZ;refine⟨(id:Int),hZ,b,hZ,x.o,ao.cell0 hZ,b,hZ,x.b,ao.cell hZ,c,hZ,L,cl.cell hZ,(GP x.o x.b L live h1 a8).x0 λr8 h2 R2=>?_⟩;obtain⟨o,ho⟩:=x6 (dM x.o x.b live)
 rw[<-ho]at R2;have ek:hY o<=64:=by rw[ho];exact qQ (Xe _ _ _) hl
 have H2:=H1.ci R2;have ec:=(H2.own 0 hZ).len;refine⟨r8,hZ,x7,?_⟩;obtain⟨cell,N⟩:=x6 (cF (x.Ki m id))
 have e0:fa m live set w ds x=(let r:=gm m live set o cell id w ds (qx o.length);(r.1.1,r.1.2.1,r.1.2.2,if r.1.1=0 then x.BC id r.2.1 r.2.2 else x)):=by rw[ho,N,hid];rfl
 rw[e0];refine aq (λi:Nat=>(i:Int)) (λi h'=>i<=hY o/\gm m live set o cell id w ds (qx o.length)=gm m live set o cell id w ds ((qx o.length).drop i)/\aa B h0 h' (an 3 r8 1 aw o::an 3 gS 1 aw x.got::fy 22 wS 3 1 aw x.W::aj b 183 (lX x (dB K) wS gS)::bu a pw da offs w ds m::aj c 108 (fI a y L t most k)::As)) (λi=>hY o-i) 0 hZ ⟨ii,hZ,H2⟩ ?_;rintro i h3 ⟨hi,b7,T⟩;refine af (λe=>?_) λe=>?_
 rotate_left
 .have ep:i=hY o:=ii
  have hd:(qx o.length).drop i=[]:=List.drop_eq_nil_of_le i5;rw[b7,hd];refine⟨hZ,?_⟩;have T:=T.rest;exact((Ag (T.aJ 5 [0,1,2,3,4])).aJ 3 [1,2,0])
 have bq:i<hY o:=ii
 have hd:(qx o.length).drop i=i::(qx o.length).drop (i+1):=by rw[qL i5,vk]
 rw[ag ((id:Int)+(i:Int))];refine(TY r8 o ((id:Int)+i) h3 (T.seq 0 hZ λ_=>rfl)).xa ?_;obtain⟨s,hs⟩:=x6 (fS o ((id:Int)+i))
 rw[<-hs];have dd:s∈o:=by rw[hs];exact Lq (by intro h;rw[h]at bq;simp at bq)
 have ay:=Dr (by rw[<-ho];exact dd);obtain⟨d,Z⟩:=a6 s ay;have O:gm m live set o cell id w ds (qx o.length)=(if gW live s∈set∨ir m d 1=eH then gm m live set o cell id w ds ((qx o.length).drop (i+1))else(jr m cell w ds s d,gW live s,s)):=by rw[b7,hd,gm,<-hs,Z]
 obtain⟨cs,b5,du,d9⟩:=(hS.cons.cons.cons.cons.cons.cons).here T;have Y:=T.box 5 hZ;refine⟨_,hZ,c,hZ,L,Y.cell hZ,(index_spec L live s _ b5 ii).mono ?_⟩;rintro _ _ ⟨⟨I,rfl,q1,q2,q3,q4⟩,rfl⟩;have a3:=adp q1 q2 q4;have c7:=q1.2 ay;refine⟨I,hZ,c,hZ,dB a,Y.cell0 hZ,(Mt s (T.aJ 5 [4])).xa ?_⟩;obtain⟨dp,al⟩:=Ub Z (T.aJ 5 [4]);rw[al];refine⟨_,hZ,?_⟩;refine bB (λ(_:Unit) h'=>¬(gW live s∈set∨ir m d 1=eH)/\aa B h0 h' (an 3 r8 1 aw o::an 3 gS 1 aw x.got::fy 22 wS 3 1 aw x.W::aj b 183 (lX x (dB K) wS gS)::bu a pw da offs w ds m::aj c 108 (fI a y L t most k)::As)) ?_ ?_
 .refine(tC g set I _ du ii).xa ⟨_,hZ,af (λe1=>?_) λe1=>?_⟩
  .refine⟨i+1,i9,⟨ii,?_,T⟩,ii⟩;rw[O,f8 (.inl (by rw[a3];exact e1))]
  .refine⟨c,hZ,y,Y.cells 1 _ hZ,(adm y 1 Z al cs (im hm) (T.aJ 5 [4])).xc λh4 R4=>?_⟩;refine⟨_,hZ,aW (λe2=>?_) λe2=>?_⟩
   .refine⟨i+1,i9,⟨ii,?_,T.up R4.ac⟩,ii⟩;rw[O,f8 (.inr e2)]
   .exact⟨λh=>h.elim (λh=>e1 (by rw[<-a3];exact h)) (λh=>by rw[h]at e2;cases e2),T.up R4.ac⟩
 rintro _ h5 ⟨c1,H5⟩;rw[O,f9 c1]
 try dsimp only
 have a9:=H5.box 5 hZ;have H5:=H5.aJ 6 [4,1,2,3,5];refine⟨c,hZ,y,a9.cells 1 _ hZ,(adn y 1 (hS.cons.cons.cons.cons.mono λ_ q=>q.1) (im hm) Z al H5).xc λh6 H6=>?_⟩;obtain⟨mk,a7⟩:=x6 (fG m w d 1)
 rw[<-a7]at H6⊢;refine⟨_,hZ,bA (λe3=>?_) λe3=>?_⟩
 .have ea:jr m cell w ds s d=(mk.1,mk.2.1,cu ds s mk.2.2):=by
   unfold jr;rw[<-a7]
   try dsimp only
   rw[f8 e3]
  rw[ea]
  try dsimp only
  rw[f9 e3,f9 e3];refine⟨hZ,?_⟩;exact(Ag (H6.aJ 5 [1,2,3,0,4])).aJ 3 [1,2,0]
 have b3:aH (cu ds s mk.2.2) s=dB mk.2.2:=by rw[ib (jJ H).1 Z,f8 rfl]
 obtain⟨S,bs⟩:=x6 (mk.2.2.append mk.2.1 cell)
 have ea:jr m cell w ds s d=(S.1,S.2.1,cu (cu ds s mk.2.2) s S.2.2):=by
  unfold jr;rw[<-a7]
  try dsimp only
  rw[f9 λh=>h e3,<-bs,rk]
 rw[ea]
 try dsimp only
 obtain⟨dj,d4,ed,cr⟩:=(hS.cons.cons.cons.cons.cons).here H6;have Q:=H6.box 3 hZ;have b9:=H6.box 4 hZ;have bl:∀{h':f7},bQ h' c 108 (fI a y L t most k)->cR h' y m->bj h' ((c.add 1).add 2) 0 [xJ xP m.p.1,xJ xP m.p.2.1,xJ xP m.p.2.2]:=λ{h'} hb hy=>by
  have dr:y.2.2.1=m.p.1:=congrArg (·.1) hy.p;have cp:y.2.2.2.1=m.p.2.1:=congrArg (·.2.1) hy.p;have dx:y.2.2.2.2.1=m.p.2.2:=congrArg (·.2.2) hy.p;rw[addr_add,<-dr,<-cp,<-dx];exact hb.cells 3 _ hZ
 refine bB (λ(z:eS) h'=>∃j:Sl,aa B h0 h' (aj z 153 (cX (x.o,x.b,(id:Int),m.p.1,m.p.2.1,m.p.2.2,x.seed,j))::an 5 j 1 aB (x.Ki m id).data::bu a pw da offs mk.2.1 (cu ds s mk.2.2) m::an 3 gS 1 aw x.got::fy 22 wS 3 1 aw x.W::aj b 183 (lX x (dB K) wS gS)::aj c 108 (fI a y L t most k)::As)) ?_ ?_
 .have cn:=bl b9 dj;have G:∀{h':f7},bQ h' b 183 (lX x (dB K) wS gS)->bQ h' c 108 (fI a y L t most k)->cR h' y m->bR.ok [(b.add 2,xJ xR x.seed),((c.add 1).add 2,xJ xP m.p.1),(((c.add 1).add 2).add 1,xJ xP m.p.2.1),(((c.add 1).add 2).add 2,xJ xP m.p.2.2),(b.add 1,xJ xP x.b),(b,xJ xP x.o)] h':=λ{h'} hb hc hy=>by
   have q:=bl hc hy;exact⟨hb.cell hZ,q.1,q.2.1,q.2.2.1,hb.cell hZ,hb.cell0 hZ,x7⟩
  refine⟨b,hZ,x.o,Q.cell0 hZ,b,hZ,x.b,Q.cell hZ,c,hZ,m.p,cn,b,hZ,x.seed,Q.cell hZ,b,hZ,dB K,Q.cell hZ,?_,?_⟩
  .refine(Bv K m.p x.seed id x.M (bG m.p).toNat m.p.2.2.toNat h6 cr hp (by have:=(bP m.p).1 hp;omega) hZ F.ev F.ml).x0 λj h7 R7=>?_;have H7:=H6.ci R7;refine⟨j,hZ,G (H7.box 4 hZ) (H7.box 5 hZ) ((hS.cons.cons.cons.cons.cons.cons).here H7).1,H7.alloc ae hZ λc9 h8 R=>?_⟩;have R:=R.aZ;refine⟨G (R.box 5 hZ) (R.box 6 hZ) ((hS.cons.cons.cons.cons.cons.cons.cons).here R).1,?_⟩;refine R.storeAll ae 0 hZ hZ (cX (x.o,x.b,(id:Int),m.p.1,m.p.2.1,m.p.2.2,x.seed,j)) hZ hZ hZ hZ λh9 H9=>⟨x7,j,H9⟩
  .refine H6.alloc ae hZ λc9 h8 R=>?_;have R:=R.aZ;obtain⟨d0,_,_,cq⟩:=(hS.cons.cons.cons.cons.cons.cons).here R;refine⟨⟨(R.box 4 hZ).cell hZ,G (R.box 4 hZ) (R.box 5 hZ) d0⟩,?_⟩;refine(Bv K m.p x.seed id x.M (bG m.p).toNat m.p.2.2.toNat h8 cq hp (by have:=(bP m.p).1 hp;omega) hZ F.ev F.ml).x0 λj h7 R7=>?_;have H7:=R.ci R7;refine⟨j,hZ,G (H7.box 5 hZ) (H7.box 6 hZ) ((hS.cons.cons.cons.cons.cons.cons.cons).here H7).1,?_⟩;refine H7.storeAll ae 1 hZ hZ (cX (x.o,x.b,(id:Int),m.p.1,m.p.2.1,m.p.2.2,x.seed,j)) hZ hZ hZ hZ λh9 H9=>⟨x7,j,H9.ie⟩
 rintro z dy ⟨j,a2⟩;have bb:=a2.box 0 hZ;refine⟨(x.o,x.b,(id:Int),m.p.1,m.p.2.1,m.p.2.2,x.seed,j),bb.aA _ hZ,?_⟩;have a5:=a2.seq 1 hZ λ_=>rfl;refine(sF (x.o,x.b,(id:Int),m.p.1,m.p.2.1,m.p.2.2,x.seed,j) (x.Ki m id) dy ⟨⟨hZ,hZ,hZ,hZ,hZ,F.seed⟩,a5⟩).x0 λb6 d8 bk=>?_;rw[<-N]at bk;have ah:=a2.ci bk;have c2:hY cell<=2^20:=by
  rw[N];unfold cF;split
  .exact qQ (Ti _ _) i0
  .simp
 have ah:=ah.aJ 8 [3,0,4,5,6,7];refine⟨b6,hZ,(Xd b6 cell (ah.seq 1 hZ λ_=>rfl) c2 b3 al ah).xc λer V=>?_⟩;rw[<-bs]at V⊢;have V:=V.aJ 6 [2,3,4,0,5];refine⟨_,hZ,bA (λe4=>?_) λe4=>?_⟩
 .rw[f9 e4,f9 e4];refine⟨hZ,?_⟩;exact(Ag V).aJ 3 [1,2,0]
 rw[e4,f8 hZ,f8 rfl];obtain⟨A,am⟩:∃A:Nat,I=(A:Int):=⟨I.toNat,ii⟩
 have E:A<hY x.W:=by rw[F.wl];omega
 have a0:x.BC id (gW live s) s={x with W:=x.W.set A (x.W[A]++[(id:Int)]),got:=x.got++[s]}:=by unfold jC.BC;rw[a3,am,qj,qd,qc E];rfl
 rw[a0];refine bB (λ(_:Unit) h'=>aa B h0 h' (bu a pw da offs S.2.1 (cu (cu ds s mk.2.2) s S.2.2) m::aj c 108 (fI a y L t most k)::sq b K {x with W:=x.W.set A (x.W[A]++[(id:Int)]),got:=x.got++[s]}::As)) ?_ ?_
 .obtain⟨rs,pp,bd,b4,dk,ar⟩:=aip E (V.aJ 2 [1,0]);have d2:=cc _ (qf E);have J:∀{h':f7} {r r':HP} {Cs:List HP},aa B h0 h' (r::Ij wS x.W A rs::r'::aj b 183 (lX x (dB K) wS gS)::Cs)->bQ h' b 183 (lX x (dB K) wS gS)/\cellOf h' (pp.add (I.toNat*1))=dB (.slice (rs[A]'ii).ptr (rs[A]'ii).len (rs[A]'ii).cap):=λ{h' r r' Cs} P=>
   ⟨P.box 3 hZ,by rw[am,qj];exact agf 1 bd E b4 hZ P⟩
  have U:=ar.box 3 hZ;have fin:∀{h':f7} {v v':Sl} {Cs:List HP},aa B h0 h' (an 3 v 1 aw (x.W[A]++[(id:Int)])::Ij wS x.W A rs::an 3 v' 1 aw (x.got++[s])::aj b 183 (lX x (dB K) wS gS)::bu a pw da offs S.2.1 (cu (cu ds s mk.2.2) s S.2.2) m::aj c 108 (fI a y L t most k)::As)->
    bR.ok [(b.add 4,xK wS.ptr wS.len wS.cap),(b.add 4,xK wS.ptr wS.len wS.cap)] h'/\∃a55:eS,(wS.ptr=dB a55/\0<=I/\I<(wS.len:Int))/\au xT (qH 22 (xL (dB (a55.add (I.toNat*1)))) (xK v.ptr v.len v.cap)) h' λ_ a1=>
     bR.ok [] a1/\∃br:eS,(dB b=dB br)/\au xT (qH 22 (xL (dB (br.add 5))) (xK v'.ptr v'.len v'.cap)) a1 λ_ a4=>bR.ok [] a4/\
      aa B h0 a4 (bu a pw da offs S.2.1 (cu (cu ds s mk.2.2) s S.2.2) m::aj c 108 (fI a y L t most k)::sq b K {x with W:=x.W.set A (x.W[A]++[(id:Int)]),got:=x.got++[s]}::As):=λ{h' v v' Cs} P=>by
   have b1:=(J P).1;refine⟨⟨b1.cell hZ,b1.cell hZ,x7⟩,aiq bd E am P λa1 d1=>⟨x7,b,hZ,d1.storeAt ae 2 hZ hZ hZ hZ hZ (show 5<6 by decide) λa4 c0=>⟨x7,?_⟩⟩⟩;exact(Ag (x:={x with W:=x.W.set A (x.W[A]++[(id:Int)]),got:=x.got++[s]}) (wS:=wS) (gS:=v') (c0.aJ 5 [1,0,2,3,4])).aJ 3 [1,2,0]
  have ax:∀{h':f7} {r r':HP} {Cs:List HP},aa B h0 h' (r::Ij wS x.W A rs::r'::aj b 183 (lX x (dB K) wS gS)::Cs)->
    bR.ok [(b.add 5,xK gS.ptr gS.len gS.cap),(b.add 4,xK wS.ptr wS.len wS.cap),(b.add 4,xK wS.ptr wS.len wS.cap)] h':=λP=>⟨(J P).1.cell hZ,(J P).1.cell hZ,(J P).1.cell hZ,x7⟩
  have ab:∀{h':f7} {r r':HP} {Cs:List HP},aa B h0 h' (r::Ij wS x.W A rs::r'::aj b 183 (lX x (dB K) wS gS)::Cs)->
    bR.ok [(b.add 5,xK gS.ptr gS.len gS.cap),(pp.add (I.toNat*1),.slice (rs[A]'ii).ptr (rs[A]'ii).len (rs[A]'ii).cap),(b.add 4,xK wS.ptr wS.len wS.cap),(b.add 4,xK wS.ptr wS.len wS.cap)] h':=λP=>⟨(J P).1.cell hZ,(J P).2,(J P).1.cell hZ,(J P).1.cell hZ,x7⟩
  refine⟨b,hZ,wS,U.cell hZ,b,hZ,wS,U.cell hZ,pp,⟨b4,c7,(by rw[am,dk];exact Int.ofNat_lt.2 E)⟩,rs[A]'ii,(J ar).2,b,hZ,gS,U.cell hZ,?_,?_⟩
  .refine ar.lit ae aw gb hZ [(id:Int)] hZ (show 1*1<=2^20 by decide) hZ λv51 c6 D=>?_;have D:=D.aZ;refine⟨ab D.rest,?_,?_⟩
   .refine D.append ae 1 hZ gb ⟨_,_,hZ,hZ⟩ hZ i0 (λ_=>rfl) (D.seq 0 hZ λ_=>rfl) fd i5 λej ca f=>⟨ax f.rest,?_⟩
    refine f.lit ae aw gb hZ [s] hZ (show 1*1<=2^20 by decide) hZ λv53 b0 u=>?_;have u:=(u.aZ).aJ 3 [0,2];refine⟨ax u.rest,?_⟩;refine u.append ae 3 hZ gb ⟨_,_,hZ,hZ⟩ hZ i0 (λ_=>rfl) (u.seq 0 hZ λ_=>rfl) fd i5 λeh b2 X=>?_;exact fin (Cs:=[]) X.rest
   .refine D.lit ae aw gb hZ [s] hZ (show 1*1<=2^20 by decide) hZ λei ca f=>?_;have f:=f.aZ;refine⟨ab f.rest.rest,?_⟩;refine f.append ae 2 hZ gb ⟨_,_,hZ,hZ⟩ hZ i0 (λ_=>rfl) (f.seq 1 hZ λ_=>rfl) fd i5 λel b0 u=>⟨ax u.rest.rest,?_⟩
    refine u.append ae 4 hZ gb ⟨_,_,hZ,hZ⟩ hZ i0 (λ_=>rfl) (u.seq 0 hZ λ_=>rfl) fd i5 λd7 b2 X=>?_;exact fin (Cs:=[]) X.rest.rest
  .refine ar.lit ae aw gb hZ [s] hZ (show 1*1<=2^20 by decide) hZ λee c6 D=>?_;have D:=D.aZ;refine⟨ab D.rest,?_⟩;refine D.lit ae aw gb hZ [(id:Int)] hZ (show 1*1<=2^20 by decide) hZ λes ca f=>?_;have f:=f.aZ;refine⟨ab f.rest.rest,?_⟩;refine f.append ae 2 hZ gb ⟨_,_,hZ,hZ⟩ hZ i0 (λ_=>rfl) (f.seq 0 hZ λ_=>rfl) fd i5 λd5 b0 u=>⟨ax u.rest.rest,?_⟩
   refine u.append ae 4 hZ gb ⟨_,_,hZ,hZ⟩ hZ i0 (λ_=>rfl) (u.seq 1 hZ λ_=>rfl) fd i5 λen b2 X=>?_;exact fin (Cs:=[]) X.rest.rest
 rintro _ eo cf;refine⟨c,hZ,k,(cf.box 1 hZ).cell hZ,c,hZ,cf.storeAt ae 1 hZ hZ hZ hZ hZ (show 12<13 by decide) λc4 ad=>⟨hZ,?_⟩⟩;have ad:aa B h0 c4 (bu a pw da offs S.2.1 (cu (cu ds s mk.2.2) s S.2.2) m::aj c 108 (fI a y L t most (qe xP (k+1)))::sq b K {x with W:=x.W.set A (x.W[A]++[(id:Int)]),got:=x.got++[s]}::As):=ad;rw[ag _]at ad;exact ad
end
theorem Ik{m:ak}{live set order:az}{c:aL}{id:Nat}{w:Pow}{ds:aD}:∀{l:List Nat},(gm m live set order c id w ds l).1.1=0->
  ∃i∈l,∃d,aH ds (fS order ((id:Int)+i))=dB d/\gW live (fS order ((id:Int)+i))∉set/\ir m d 1=ez/\gm m live set order c id w ds l=(jr m c w ds (fS order ((id:Int)+i)) d,gW live (fS order ((id:Int)+i)),fS order ((id:Int)+i))
 |[],h=>j8
 |i::l,h=>by
  unfold gm at h⊢;dsimp only at h⊢;cases hd:aH ds (fS order ((id:Int)+i))with
  |none=>
   rw[hd]at h;obtain⟨j,b,r⟩:=Ik h;exact⟨j,qA _ b,r⟩
  |some d=>
   rw[hd]at h;dsimp only at h⊢;by_cases a:gW live (fS order ((id:Int)+i))∈set∨ir m d 1=eH
   .rw[f8 a]at h⊢;obtain⟨j,b,r⟩:=Ik h;exact⟨j,qA _ b,r⟩
   .rw[f9 a];exact⟨i,qF,d,hd,λh=>a (.inl h),by cases hf:ir m d 1 with|true=>rfl|false=>exact absurd (.inr hf) a,rfl⟩
theorem aaz{m:ak}{c:aL}{w:Pow}{ds:aD}{s:Int}{d:ba}:∃a,(jr m c w ds s d).2.2=cu ds s a:=by
 unfold jr
 try dsimp only
 split
 .exact⟨_,hZ⟩
 .exact⟨_,rk _ _ _ _⟩
theorem Il{m:ak}{live set order:az}{c:aL}{id:Nat}{w:Pow}{ds:aD}(a:hY ds=64){P:Int->Prop}(b:∀k,P k->∃d,aH ds k=dB d):∀{l:List Nat},∀k,P k->∃d,aH (gm m live set order c id w ds l).1.2.2 k=dB d
 |[],k,hk=>b k hk
 |i::l,k,hk=>by
  unfold gm
  try dsimp only
  cases hd:aH ds (fS order ((id:Int)+i))with
  |none=>exact Il a b k hk
  |some d=>
   try dsimp only
   split
   .exact Il a b k hk
   .obtain⟨f,e⟩:=aaz (m:=m) (c:=c) (w:=w) (ds:=ds) (s:=fS order ((id:Int)+i)) (d:=d)
    try dsimp only
    rw[e,ib a hd];split
    .exact⟨_,hZ⟩
    .exact b k hk
theorem Ri{W:cg}{n:Nat}(h:∀l∈W,∀x∈l,x.toNat<=n):BA W<=n:=by
 have c:∀l:az,(∀x∈l,x.toNat<=n)->l.foldr (λx a=>max a x.toNat) 0<=n:=by
  intro l
  induction l with
  |nil=>intro _;exact zk _
  |cons x l ih=>
   intro h;rw[List.foldr_cons];have f:=ih λy d=>h y (qA _ d);have g:=h x qF;omega
 exact c _ λx b=>by
  obtain⟨l,e,b⟩:=vI.1 b;exact h l e x b
theorem Im{m:ak}{live set:az}{w:Pow}{ds:aD}{x:jC}(F:nD m live x)(H:hY x.got<64):nD m live (fa m live set w ds x).2.2.2/\((fa m live set w ds x).1=0->∃s,s∈live/\(fa m live set w ds x).2.2.2=x.BC (fk x.W) (gW live s) s)/\((fa m live set w ds x).1≠0->(fa m live set w ds x).2.2.2=x):=by
 unfold fa
 try dsimp only
 obtain⟨r,p⟩:=x6 (gm m live set (dM x.o x.b live) (cF (x.Ki m (fk x.W))) (fk x.W) w ds (qx (dM x.o x.b live).length))
 rw[<-p];by_cases h:r.1.1=0
 .rw[f8 h];obtain⟨i,n,d,B,E,h3,t⟩:=Ik (by rw[<-p];exact h);rw[<-p]at t;have n:=qz.1 n;have v:fS (dM x.o x.b live) ((fk x.W:Int)+i)∈live:=Dr (Lq (by intro h;rw[h]at n;simp at n));have A:r.2.1=gW live (fS (dM x.o x.b live) ((fk x.W:Int)+i)):=by rw[t]
  have u:r.2.2=fS (dM x.o x.b live) ((fk x.W:Int)+i):=by rw[t]
  refine⟨?_,λ_=>⟨_,v,by rw[A,u]⟩,λq=>absurd h q⟩;have g:(x.BC (fk x.W) r.2.1 r.2.2).got.length=hY x.got+1:=by simp[jC.BC]
  have a:∀l∈(x.BC (fk x.W) r.2.1 r.2.2).W,l∈x.W∨l=x.W.getD r.2.1.toNat []++[(fk x.W:Int)]:=λl j=>List.mem_or_eq_of_mem_set j;have c:∀k,x.W.getD k []∈x.W∨x.W.getD k []=[]:=λk=>by
   by_cases y:k<hY x.W
   .rw[gT [] y];exact .inl (qf y)
   .exact .inr (by rw[qd,qJ ii];rfl)
  have D:=Rf x.W;have G:=F.top;refine⟨F.seed,F.ev,F.ml,by show(x.W.set _ _).length=_;rw[zE];exact F.wl,λl j=>?_,?_,ii,λs f=>?_⟩
  .rw[g];rcases a l j with h|rfl
   .have:=F.rl l h;omega
   .rw[qw,List.length_singleton];rcases c r.2.1.toNat with h|h
    .have:=F.rl _ h;omega
    .rw[h,List.length_nil];omega
  .rw[g];refine Ri λl j z e=>?_;rcases a l j with h|rfl
   .have:=Lo (vI.2 ⟨l,h,e⟩);omega
   .rcases qt.1 e with e|e
    .rcases c r.2.1.toNat with h|h
     .have:=Lo (vI.2 ⟨_,h,e⟩);omega
     .rw[h]at e;cases e
    .rw[qp.1 e];omega
  .have f:s∈x.got++[r.2.2]:=f;rcases qt.1 f with h|h
   .exact F.gi s h
   .rw[qp.1 h,u];exact v
 .rw[f9 h];exact⟨F,λq=>absurd q h,λ_=>rfl⟩
theorem aaA(p:Pm)(seed:Int)(W:cg)(t:Int):(iL p seed W t).1.length<=64:=by
 unfold iL;split
 .split
  .split
   .exact zk _
   .rename_i h _;split
    .rename_i g b;obtain⟨y,a,rfl⟩:=qo.1 (List.mem_of_find?_eq_some b)
     try dsimp only
     rw[lA,(Cz a).1];omega
    .exact zk _
  .exact zk _
 .exact zk _
section
variable {pw:eS}
theorem Xf{c b V:eS}(y:bh)(E:Sl)(live:az)(t most k:Int)(x:jC)(hm:bc m=ez)(hp:bK m.p=ez)(hl:hY live<=64)(N:∀k∈live,∃d,aH ds k=dB d)(hk:0<=k/\k<=2^39)(F:nD m live x)(D:x.got=[])(L:0<=most/\most<=64)
  (hS:St B h0 As λh=>cR h y m/\Rd h E 1 aw live/\wm h V m.p x.seed x.M)
  (H:aa B h0 h (bu a pw da offs w ds m::aj c 108 (fI a y E t most k)::sq b V x::As)):
  ai xT 123 #[xL (dB c),xL (dB b)] h λv h'=>v=xJ xP (db m live t most 65 w ds x).1/\
   aa B h0 h' (bu a pw da offs (db m live t most 65 w ds x).2.1 (db m live t most 65 w ds x).2.2.1 m::aj c 108 (fI a y E t most (k+(db m live t most 65 w ds x).2.2.2.got.length))::sq b V (db m live t most 65 w ds x).2.2.2::As):=by
 refine ts Tryz.func123 ?_ (v7 (v1 (v2 [] [(4,56)] u9)));obtain⟨G,hG⟩:=x6 (db m live t most 65 w ds x)
 rw[<-hG];refine aq (λ_:Nat×Pow×aD×jC=>()) (λz h'=>z.1+hY z.2.2.2.got=65/\(hY z.2.2.2.got:Int)<=most/\G=db m live t most z.1 z.2.1 z.2.2.1 z.2.2.2/\nD m live z.2.2.2/\z.2.2.2.seed=x.seed/\z.2.2.2.M=x.M/\(∀k∈live,∃d,aH z.2.2.1 k=dB d)/\
  aa B h0 h' (bu a pw da offs z.2.1 z.2.2.1 m::aj c 108 (fI a y E t most (k+hY z.2.2.2.got))::sq b V z.2.2.2::As)) (λz=>z.1) (65,w,ds,x) hZ ⟨by rw[D];rfl,by rw[D];exact L.1,hG,F,hZ,hZ,N,by rw[D];show aa B h0 h (_::aj c _ (fI a y E t most (k+0))::_);rw[Int.add_zero];exact H⟩ ?_
 rintro⟨f,w1,ds1,j⟩ h1 ⟨hf,ar,g,J,es,eM,i,K⟩;dsimp only at hf ar g J es eM i K⊢;obtain⟨f',rfl⟩:∃f',f=f'+1:=⟨f-1,ii⟩
 have ab:=K.box 1 hZ;obtain⟨wS,gS,H2⟩:=Gw (K.aJ 3 [2,0,1]);have U:=H2.box 2 hZ;have ao:fe h1 wS 1 aw j.W:=aa.uG (H2.aJ 2 [1,0]) λ_=>rfl;have am:eu (bN (cz 1 aw) 1 bn) h1 wS j.W:=by obtain⟨rs,q1,q2,q3⟩:=ao;exact⟨rs,q1,q2,q3⟩
 obtain⟨hy,a2,hM⟩:=(hS.cons.cons.cons).here K;have ax:y.2.2.1=m.p.1:=congrArg (·.1) hy.p;have ah:y.2.2.2.1=m.p.2.1:=congrArg (·.2.1) hy.p;have ay:y.2.2.2.2.1=m.p.2.2:=congrArg (·.2.2) hy.p;have ad:bj h1 ((c.add 1).add 2) 0 [xJ xP m.p.1,xJ xP m.p.2.1,xJ xP m.p.2.2]:=by rw[addr_add,<-ax,<-ah,<-ay];exact ab.cells 3 _ hZ
 refine⟨c,hZ,m.p,ad,b,hZ,j.seed,U.cell hZ,b,hZ,wS,U.cell hZ,c,hZ,t,ab.cell hZ,?_⟩;refine(JN m.p j.seed wS j.W t h1 am (by rw[J.wl];omega) (λl hl=>by have:=J.rl l hl;have:=J.gl;omega) (yD _)).x0 λr h2 R2=>?_;obtain⟨q,S⟩:=x6 (iL m.p j.seed j.W t)
 rw[<-S]at R2⊢;rw[db]at g;dsimp only at g;rw[<-S]at g;have T:=K.up R2.ac;refine⟨(r,q.2.1,q.2.2),hZ,x7,?_⟩
 try dsimp only
 refine bA (λe=>?_) λe=>?_
 .rw[f8 e]at g;rw[g];exact⟨hZ,T⟩
 rw[f9 λh=>h e]at g;refine aW (λe1=>?_) λe1=>?_
 .rw[f8 e1]at g;rw[g];exact⟨hZ,T⟩
 rw[f9 ln]at g;obtain⟨a1,al,H4⟩:=Gw (T.aJ 3 [2,0,1]);have Y:=H4.box 2 hZ;have o:=(H4.own 0 hZ).len;have O:=T.box 1 hZ;refine⟨b,hZ,al,Y.cell hZ,c,hZ,most,O.cell hZ,af (λZ=>?_) λZ=>?_⟩
 .rw[o]at Z;rw[f8 Z]at g;rw[g];exact⟨hZ,T⟩
 rw[o]at Z;rw[f9 Z]at g;have H5:=(K.ci R2).aJ 4 [1,2,3,0];have ap:hY q.1<=2^20:=by have:=aaA m.p j.seed j.W t;rw[S];omega
 have a0:St B h0 (EA (cz 1 aw) r q.1::As) λh=>cR h y m/\Rd h E 1 aw live/\Rd h r 1 aw q.1/\wm h V m.p j.seed j.M:=λBs h' H'=>by
  obtain⟨z1,z2,z3⟩:=hS.cons Bs h' H';rw[es,eM];exact⟨z1,z2,(St.ey (A:=EA (cz 1 aw) r q.1) (Q:=λh=>Rd h r 1 aw q.1) 0 hZ λh' S=>S) Bs h' H',z3⟩
 refine(aay y E r live q.1 t most (k+hY j.got) j hm hp hl i (by have:=J.gl;omega) J ap a0 H5).xc λh6 u=>?_;obtain⟨g1,g2,g3⟩:=Im (set:=q.1) (w:=w1) (ds:=ds1) J ii;have X:∀k∈live,∃d,aH (fa m live q.1 w1 ds1 j).2.2.1 k=dB d:=λk hk=>Il (P:=λk=>k∈live) (jJ K).1 i k hk;obtain⟨Q,hQ⟩:=x6 (fa m live q.1 w1 ds1 j)
 rw[<-hQ]at u g1 g2 g3 X g⊢;have u:=u.aJ 4 [0,1,2];refine⟨_,hZ,bA (λI=>?_) λI=>?_⟩
 .rw[f8 I]at g;rw[g];refine⟨hZ,?_⟩;rw[f9 I]at u;rw[g3 I]at u⊢;exact u
 .rw[f9 λh=>h I]at g;rw[f8 I]at u;obtain⟨s,hs,eg⟩:=g2 I;have R:hY Q.2.2.2.got=hY j.got+1:=by rw[eg];simp[jC.BC]
  refine⟨(f',Q.2.1,Q.2.2.1,Q.2.2.2),hZ,⟨?_,?_,g,g1,?_,?_,X,?_⟩,i4⟩
  ·(try dsimp only);omega
  ·(try dsimp only);omega
  ·(try dsimp only);rw[eg];exact es
  ·(try dsimp only);rw[eg];exact eM
  .try dsimp only
   rw[R,Int.natCast_add,<-Int.add_assoc];exact u
end
noncomputable def fb(m:ak)(live:az)(ds:aD)(o:Int)(tries:az)(i:Nat):Int×jC:=
 let seed:=cv o i (tries.getD i 0);let r:=lV m.p seed (eG m ds live o i)
 if r.2≠0 then(11,⟨o,i,seed,[],[],[]⟩)else if iZ m.p seed r.1.length≠0 then(11,⟨o,i,seed,[],[],[]⟩)else(0,⟨o,i,seed,dG m.p seed r.1,eI m ds o i (aR ds m.drives),[]⟩)
theorem aaB{p:Pm}{seed:Int}{l:Nat}(h:iZ p seed l=0):bK p=ez/\fV p seed (fw p)=ez/\(l:Int)=p.1*p.2.2:=by
 unfold iZ at h;split at h
 .rename_i a;rw[qy,decide_eq_true_eq]at a;split at h
  .rename_i b;exact⟨a.1,b,a.2⟩
  .cases h
 .cases h
theorem Kj{m:ak}{ds:aD}{o b k:Int}(a:∀k d,aH ds k=dB d->hY d.l<=512):hY (il m ds o b k)<=512:=by
 unfold il;cases hd:aH ds k with
 |none=>exact zk _
 |some d=>exact qQ (Dc m o b d.l) (a k d hd)
theorem aaC{m:ak}{ds:aD}{o b:Int}{live:az}(e:hY live<=64)(a:∀k d,aH ds k=dB d->hY d.l<=512):hY (eG m ds live o b)<=64*512:=by unfold eG;exact qQ (Gq (c:=512) λj _=>Kj a) (zF _ e)
theorem aaD{m:ak}{ds:aD}{o b k:Int}{x:Int×aL}(h:x∈il m ds o b k):0<=x.1/\x.1<=65535:=by obtain⟨d,r,_,e,_,_,rfl⟩:=Dn h;obtain⟨_,_,_,c⟩:=ug e;have a:=(jT.1 c).1;unfold ji at a;rw[qy,qy,qy]at a;have:=a.1.2.2;unfold bW at this;rw[qy,decide_eq_true_eq,decide_eq_true_eq]at this;exact this
theorem MS{m:ak}{ds:aD}{o b:Int}{live l:az}(h:l∈eI m ds o b live):∃k∈live,l=(il m ds o b k).map qE:=by unfold eI at h;obtain⟨k,a,rfl⟩:=qo.1 h;refine⟨k,a,?_⟩;unfold eG;rw[zb,z6,qG]
theorem Io{m:ak}{live:az}{ds:aD}{o:Int}{tries:az}{i:Nat}(e:∀k d,aH ds k=dB d->hY d.l<=512)(D:hY (aR ds m.drives)=hY live)(h:(fb m live ds o tries i).1=0):nD m live (fb m live ds o tries i).2/\(fb m live ds o tries i).2.got=[]:=by
 unfold fb at h⊢;dsimp only at h⊢;obtain⟨r,q⟩:=x6 (lV m.p (cv o i (tries.getD i 0)) (eG m ds live o i))
 rw[<-q]at h⊢;by_cases j:r.2≠0
 .rw[f8 j]at h;cases h
 rw[f9 j]at h⊢;by_cases g:iZ m.p (cv o i (tries.getD i 0)) r.1.length≠0
 .rw[f8 g]at h;cases h
 rw[f9 g]at h⊢;obtain⟨a,b,c⟩:=aaB m0;obtain⟨K,H,w,n,B⟩:=Vn a b c;have v:m.p.2.2.toNat=w:=B.size;have u:(bG m.p).toNat=n:=by have:=B.k;have:=B.h;have:=B.n;rw[bG,f8 a];omega
 refine⟨⟨iz _ _ _,by rw[v];exact B.om.2,by rw[u];exact B.om.1,by show(eI _ _ _ _ _).length=_;unfold eI;rw[qu];exact D,λl f=>?_,?_,zk _,λs y=>by cases y⟩,hZ⟩
 .obtain⟨k,_,rfl⟩:=MS f;rw[qu];have:=Kj (m:=m) (ds:=ds) (o:=o) (b:=i) (k:=k) e;omega
 .refine qQ (Ri (n:=65535) λl f x t=>?_) (by show(65535:Nat)<=2^20+0;decide);obtain⟨k,_,rfl⟩:=MS f;obtain⟨z,A,rfl⟩:=qo.1 t;have:=aaD A;omega
def BD(a:eS)(p:Pm)(seed:Int)(M:aN):HP:=HP.ex λm:Sl=>(aj a 256 (Fc p seed m)).sep (gK 34 m 1 aB M)
section
variable {pw:eS}
theorem aiP{a:eS}{p:Pm}{seed:Int}{M:aN}:St B h0 (BD a p seed M::As) λh=>wm h a p seed M:=λBs h' d=>by
 have c:=d.cons Bs.length (A:=BD a p seed M) (by rw[qi (qm _),Nat.sub_self];rfl);obtain⟨q,e⟩:=c.pD;have b:=e.mD;exact⟨q,b.box 1 hZ,b.Ea 0 hZ⟩
theorem Xg{c:eS}(y:bh)(f:Sl)(live:az)(t most k:Int)(x:dP)(e:Qw.cb)(i:Nat)(hm:bc m=ez)(hl:live.length<=64)(P:∀k∈live,∃d,aH ds k=dB d)(hi:i<e.tries.length)(bb:e.tries.length<=2^20)
  (hS:St B h0 As λh=>cR h y m/\Rd h f 1 aw live/\eu gV h x e)
  (H:aa B h0 h (bu a pw da offs w ds m::aj c 108 (fI a y f t most k)::As)):
  ai xT 122 #[xL (dB c),xO (bY x).toArray,xJ xP i] h λv h'=>
   ((fb m live ds e.object e.tries i).1≠0->v=.tuple #[xL et,xJ xP (fb m live ds e.object e.tries i).1]/\aa B h0 h' (bu a pw da offs w ds m::aj c 108 (fI a y f t most k)::As))/\
   ((fb m live ds e.object e.tries i).1=0->∃b cd:eS,v=.tuple #[xL (dB b),xJ xP 0]/\aa B h0 h' (bu a pw da offs w ds m::aj c 108 (fI a y f t most k)::sq b cd (fb m live ds e.object e.tries i).2::BD cd m.p (fb m live ds e.object e.tries i).2.seed (fb m live ds e.object e.tries i).2.M::As)):=by
 have hz:=im hm;have ab:=(jJ H).2;have R:∀k d,aH ds k=dB d->d.l.length<=512:=λk d hd=>by have:=ab k d hd;omega
 obtain⟨seed,Y⟩:=x6 (cv e.object i (e.tries.getD i 0))
 obtain⟨r,hr⟩:=x6 (lV m.p seed (eG m ds live e.object i))
 have eP:fb m live ds e.object e.tries i=(if r.2≠0 then(11,⟨e.object,i,seed,[],[],[]⟩)else if iZ m.p seed r.1.length≠0 then(11,⟨e.object,i,seed,[],[],[]⟩)else(0,⟨e.object,i,seed,dG m.p seed r.1,eI m ds e.object i (aR ds m.drives),[]⟩)):=by rw[hr,Y];rfl
 refine ts Tryz.func122 ?_ (v7 (ws [(8,TR)] [(8,9),(11,25)] (ws [(9,cM),(10,aU)] [(9,11),(25,55)] (v7 (u7 (v6 [] [(6,8),(10,11),(57,76)] (ws [(10,aU)] [(10,11),(57,74)] u9)) (ws [] [(76,87)] u9)))))) (args:=[(dB c),x,(i:Int)]);refine H.boxed λs h1 Z=>?_;have Z:aa B h0 h1 (aj s 111 (bY x)::bu a pw da offs w ds m::aj c 108 (fI a y f t most k)::As):=Z.aZ;obtain⟨hy,br,hx⟩:=(hS.cons.cons.cons).here Z;have g:=Z.box 0 hZ;obtain⟨⟨x1,x2,x3⟩,x4⟩:=id hx;have b0:=x4.len;have no:∀{h':f7} {Cs:List HP},aa B h0 h' (aj s 111 (bY x)::bu a pw da offs w ds m::aj c 108 (fI a y f t most k)::As)->(fb m live ds e.object e.tries i).1=11->
   ((fb m live ds e.object e.tries i).1≠0->Value.tuple #[xL et,xJ xP 11]=.tuple #[xL et,xJ xP (fb m live ds e.object e.tries i).1]/\aa B h0 h' (bu a pw da offs w ds m::aj c 108 (fI a y f t most k)::As))/\
   ((fb m live ds e.object e.tries i).1=0->∃b cd:eS,Value.tuple #[xL et,xJ xP 11]=.tuple #[xL (dB b),xJ xP 0]/\aa B h0 h' (bu a pw da offs w ds m::aj c 108 (fI a y f t most k)::sq b cd (fb m live ds e.object e.tries i).2::BD cd m.p (fb m live ds e.object e.tries i).2.seed (fb m live ds e.object e.tries i).2.M::As)):=λ{h' Cs} H' he=>by
  rw[he];exact⟨λ_=>⟨hZ,H'.rest⟩,λh=>absurd h i0⟩
 have N:∀{h':f7},cR h' y m->bQ h' c 108 (fI a y f t most k)->bj h' ((c.add 1).add 2) 0 [xJ xP m.p.1,xJ xP m.p.2.1,xJ xP m.p.2.2]:=λ{h'} hy hc=>by
  have a5:y.2.2.1=m.p.1:=congrArg (·.1) hy.p;have ah:y.2.2.2.1=m.p.2.1:=congrArg (·.2.1) hy.p;have a7:y.2.2.2.2.1=m.p.2.2:=congrArg (·.2.2) hy.p;rw[addr_add,<-a5,<-ah,<-a7];exact hc.cells 3 _ hZ
 obtain⟨A,j⟩:∃A:jC,A=⟨e.object,i,seed,[],[],[]⟩:=⟨_,rfl⟩
 refine bB (λ(z:bD) h'=>∃b:eS,z=dB b/\aa B h0 h' (aj b 183 (lX A et ⟨et,0,0⟩ ⟨et,0,0⟩)::aj s 111 (bY x)::bu a pw da offs w ds m::aj c 108 (fI a y f t most k)::As)) ?_ ?_
 .refine⟨x.2.1,g.cell hZ,x.2.1,g.cell hZ,x.2.2.2,g.cell hZ,?_⟩;refine x4.bo i hZ hi e.tries[i] hZ ?_;refine(pW x.2.1 i e.tries[i] h1).xa ⟨_,hZ,⟨g.cell hZ,g.cell hZ,x7⟩,?_⟩;refine Z.boxed λa8 h3 T=>?_;have T:=T.aZ;refine⟨⟨(T.box 1 hZ).cell hZ,(T.box 1 hZ).cell hZ,x7⟩,a8,hZ,?_⟩;have es:cv x.2.1 i e.tries[i]=seed:=by rw[Y,x2,gT 0 hi]
  rw[es,x2]at T;rw[j];exact T
 rintro _ h4 ⟨b,rfl,S⟩;have a0:=S.box 0 hZ;have J:=S.box 3 hZ;have ad:=S.box 1 hZ;obtain⟨V,X,bd⟩:=(hS.cons.cons.cons.cons).here S;have O:A.seed=seed:=by rw[j]
 have bl:A.o=e.object:=by rw[j]
 refine bB (λ(z:Sl×Int) h'=>z.2=r.2/\aa B h0 h' (an 5 z.1 1 aB r.1::aj b 183 (lX A et ⟨et,0,0⟩ ⟨et,0,0⟩)::aj s 111 (bY x)::bu a pw da offs w ds m::aj c 108 (fI a y f t most k)::As)) ?_ ?_
 .refine⟨c,hZ,m.p,N V J,b,hZ,seed,by rw[<-O];exact a0.cell hZ,c,hZ,dB a,J.cell0 hZ,c,hZ,f,J.cell hZ,c,hZ,y,J.cells 1 _ hZ,x.2.1,ad.cell hZ,?_⟩;rw[x2];refine(Th y f live e.object i V hz X ii P (S.aJ 3 [2])).mono ?_;rintro _ h5 ⟨D,ss,rfl,R5⟩;have U:=S.up R5.ac;have L:Fix mS 2 piv h5 (λb=>b<h5.size) D ss (eG m ds live e.object i):=R5.at 0 hZ;have am:eu Gs h5 D (eG m ds live e.object i):=⟨ss,L.1,L.2.1,L.2.2⟩
  have bq:=aaC (m:=m) (o:=e.object) (b:=i) hl R;obtain⟨ap,_,_⟩:=(hS.cons.cons.cons.cons).here U;have q5:=N ap (U.box 3 hZ);refine⟨D,hZ,⟨(U.box 3 hZ).cell0 hZ,by rw[<-O];exact(U.box 0 hZ).cell hZ,q5.1,q5.2.1,q5.2.2.1,x7⟩,?_⟩;refine(JV m.p seed D _ h5 am).x0 λao h6 R6=>?_;rw[<-hr]at R6⊢;have H6:=U.ci R6;refine⟨(ao,r.2),hZ,⟨(H6.box 4 hZ).cell0 hZ,x7⟩,hZ,?_⟩;exact H6
 rintro⟨z,_⟩ h7 ⟨rfl,E⟩;dsimp only at E⊢;refine bA (λe1=>?_) λe1=>?_
 .exact no (Cs:=[]) E.rest.rest (by rw[eP,f8 e1])
 have ar:=E.own 0 hZ;refine bB (λ(_:Unit) h'=>iZ m.p seed r.1.length=0/\∃cd:eS,aa B h0 h' (aj b 183 (lX A (dB cd) ⟨et,0,0⟩ ⟨et,0,0⟩)::BD cd m.p seed (dG m.p seed r.1)::aj s 111 (bY x)::bu a pw da offs w ds m::aj c 108 (fI a y f t most k)::As)) ?_ ?_
 .refine bB (λ(z:Int) h'=>(z≠0->iZ m.p seed r.1.length≠0/\aa B h0 h' (aj s 111 (bY x)::bu a pw da offs w ds m::aj c 108 (fI a y f t most k)::As))/\(z=0->iZ m.p seed r.1.length=0/\∃cd:eS,aa B h0 h' (aj b 183 (lX A (dB cd) ⟨et,0,0⟩ ⟨et,0,0⟩)::BD cd m.p seed (dG m.p seed r.1)::aj s 111 (bY x)::bu a pw da offs w ds m::aj c 108 (fI a y f t most k)::As))) ?_ ?_
  .obtain⟨a3,_,_⟩:=(hS.cons.cons.cons.cons.cons).here E;refine⟨c,hZ,m.p,N a3 (E.box 4 hZ),b,hZ,seed,by rw[<-O];exact(E.box 1 hZ).cell hZ,?_⟩;refine(PP m.p seed z r.1 h7 (E.seq 0 hZ λ_=>rfl) ar.cap).mono ?_;rintro _ h8 ⟨n1,n2⟩;by_cases I:iZ m.p seed r.1.length=0
   .obtain⟨cd,mm,rfl,R8⟩:=n1 I;have H8:=(E.comp R8).front;refine⟨(dB cd,0),hZ,x7,b,hZ,?_⟩;refine H8.storeAt ae 3 hZ hZ hZ hZ hZ (show 3<6 by decide) λh9 W=>⟨x7,?_⟩
    have a2:aa B h0 h9 (BD cd m.p seed (dG m.p seed r.1)::an 5 z 1 aB r.1::aj b 183 (lX A (dB cd) ⟨et,0,0⟩ ⟨et,0,0⟩)::aj s 111 (bY x)::bu a pw da offs w ds m::aj c 108 (fI a y f t most k)::As):=
     aa.uF (F:=λq:Sl=>(aj cd 256 (Fc m.p seed q)).sep (gK 34 q 1 aB (dG m.p seed r.1))) mm W.jw
    exact⟨λh=>absurd hZ h,λ_=>⟨I,cd,a2.aJ 3 [2,0]⟩⟩
   .obtain⟨rfl,R8⟩:=n2 I;have H8:=E.up R8.ac;refine⟨(et,iZ m.p seed r.1.length),hZ,x7,b,hZ,?_⟩;refine H8.storeAt ae 1 hZ hZ hZ hZ hZ (show 3<6 by decide) λh9 W=>⟨x7,?_⟩
    exact⟨λ_=>⟨I,W.rest.rest⟩,λh=>absurd h I⟩
  .rintro z h9 ⟨n1,n2⟩;refine bA (λe2=>?_) λe2=>n2 e2;obtain⟨I,W⟩:=n1 e2;exact no (Cs:=[]) W (by rw[eP,f9 λh=>h e1,f8 I])
 rintro _ a9 ⟨I,cd,u⟩;have a6:fb m live ds e.object e.tries i=(0,⟨e.object,i,seed,dG m.p seed r.1,eI m ds e.object i (aR ds m.drives),[]⟩):=by rw[eP,f9 λh=>h e1,f9 λh=>h I]
 rw[a6]
 try dsimp only
 refine bB (λ(_:Unit) h'=>aa B h0 h' (bu a pw da offs w ds m::aj c 108 (fI a y f t most k)::sq b cd ⟨e.object,i,seed,dG m.p seed r.1,eI m ds e.object i (aR ds m.drives),[]⟩::BD cd m.p seed (dG m.p seed r.1)::As)) ?_ ?_
 .refine⟨c,hZ,dB a,(u.box 4 hZ).cell0 hZ,x.2.1,(u.box 2 hZ).cell hZ,?_⟩;rw[x2];refine(Zn e.object i hm (u.aJ 4 [3])).x0 λK bs ay=>?_;have al:=u.ci ay;refine⟨K,hZ,x7,b,hZ,?_⟩;refine al.storeAt ae 1 hZ hZ hZ hZ hZ (show 4<6 by decide) λax G=>⟨x7,?_⟩
  have G:aa B h0 ax (fy 22 K 3 1 aw (eI m ds e.object i (aR ds m.drives))::aj b 183 (lX ⟨e.object,i,seed,dG m.p seed r.1,eI m ds e.object i (aR ds m.drives),[]⟩ (dB cd) K ⟨et,0,0⟩)::BD cd m.p seed (dG m.p seed r.1)::aj s 111 (bY x)::bu a pw da offs w ds m::aj c 108 (fI a y f t most k)::As):=by rw[j]at G;exact G
  have Q:=(G.nil 3 1 aw).aZ;have a4:=Ag (x:=⟨e.object,i,seed,dG m.p seed r.1,eI m ds e.object i (aR ds m.drives),[]⟩) Q;exact a4.aJ 5 [3,4,0,1]
 .rintro _ bk Q;exact⟨λh=>absurd hZ h,λ_=>⟨b,cd,hZ,Q⟩⟩
end
theorem Tj(w:Pow)(d:ba)(b:aL):(d.append w b).2.2.lost=d.lost:=by unfold ba.append;(repeat' split)<;>rfl
theorem FG(w:Pow)(d:ba)(l:bH):(d.rewrite w l).2.2.lost=d.lost:=by unfold ba.rewrite;(repeat' split)<;>rfl
theorem aaE(w:Pow)(d:ba):(d.sync w).2.2.lost=d.lost:=by unfold ba.sync;(repeat' split)<;>rfl
theorem Kk(m:ak)(w:Pow)(d:ba)(n:Int):(fG m w d n).2.2.lost=d.lost:=by
 unfold fG;split
 .rfl
 .split
  .rfl
  .split
   .rfl
   .exact FG _ _ _
structure iV (ds ds':aD):Prop where
 len:hY ds'=hY ds
 at_:∀k,(aH ds' k).map ba.lost=(aH ds k).map ba.lost
theorem iV.refl(ds:aD):iV ds ds:=⟨hZ,λ_=>rfl⟩
theorem iV.trans{a b c:aD}(d:iV a b)(e:iV b c):iV a c:=⟨e.len.trans d.len,λk=>(e.at_ k).trans (d.at_ k)⟩
theorem iV.set{ds:aD}{k:Int}{d e:ba}(a:hY ds=64)(b:aH ds k=dB d)(c:e.lost=d.lost):iV ds (cu ds k e):=⟨oT _ _ _,λs=>by
 rw[ib a b];split
 .rename_i h;subst h;rw[b];simp[c]
 .rfl⟩
theorem iV.live{ds ds':aD}(h:iV ds ds')(l:az):aR ds' l=aR ds l:=by unfold aR;refine List.filter_congr λx _=>?_;unfold isLive;have:=h.at_ x;cases h1:aH ds' x<;>cases h2:aH ds x<;>rw[h1,h2]at this<;>first|rfl|cases this|(injection this with this;simp only[this])
theorem Tk{m:ak}{c:aL}{w:Pow}{ds:aD}{s:Int}{d:ba}(a:hY ds=64)(b:aH ds s=dB d):iV ds (jr m c w ds s d).2.2:=by
 unfold jr
 try dsimp only
 split
 .exact .set a b (Kk _ _ _ _)
 .rw[rk];exact .set a b ((Tj _ _ _).trans (Kk _ _ _ _))
theorem Ds{m:ak}{live set order:az}{c:aL}{id:Nat}{w:Pow}{ds:aD}(a:hY ds=64):∀{l:List Nat},iV ds (gm m live set order c id w ds l).1.2.2
 |[]=>.refl _
 |i::l=>by
  unfold gm
  try dsimp only
  cases hd:aH ds (fS order ((id:Int)+i))with
  |none=>exact Ds a
  |some d=>
   try dsimp only
   split
   .exact Ds a
   .exact Tk a hd
theorem aaF{m:ak}{live set:az}{w:Pow}{ds:aD}{x:jC}(a:hY ds=64):iV ds (fa m live set w ds x).2.2.1:=Ds a
theorem Kl{m:ak}{live:az}{t most:Int}:∀{f:Nat} {w:Pow} {ds:aD} {x:jC},hY ds=64->iV ds (db m live t most f w ds x).2.2.1
 |0,_,_,_,_=>.refl _
 |f+1,w,ds,x,h64=>by
  unfold db
  try dsimp only
  split
  .exact .refl _
  .split
   .exact .refl _
   .split
    .exact .refl _
    .have a:=aaF (m:=m) (live:=live) (set:=(iL m.p x.seed x.W t).1) (w:=w) (x:=x) h64;split
     .exact a
     .exact a.trans (Kl (a.len.trans h64))
theorem FH{m:ak}{live:az}{t most:Int}(j:most<=64):∀{f:Nat} {w:Pow} {ds:aD} {x:jC},nD m live x->nD m live (db m live t most f w ds x).2.2.2/\(db m live t most f w ds x).2.2.2.seed=x.seed/\(db m live t most f w ds x).2.2.2.M=x.M
 |0,_,_,_,F=>⟨F,hZ,hZ⟩
 |f+1,w,ds,x,F=>by
  unfold db
  try dsimp only
  split
  .exact⟨F,hZ,hZ⟩
  .split
   .exact⟨F,hZ,hZ⟩
   .split
    .exact⟨F,hZ,hZ⟩
    .rename_i k;obtain⟨g,i,h3⟩:=Im F ii;have d:(fa m live (iL m.p x.seed x.W t).1 w ds x).2.2.2.seed=x.seed/\(fa m live (iL m.p x.seed x.W t).1 w ds x).2.2.2.M=x.M:=by
      by_cases h:(fa m live (iL m.p x.seed x.W t).1 w ds x).1=0
      .obtain⟨s,_,e⟩:=i h;rw[e];exact⟨hZ,hZ⟩
      .rw[h3 h];exact⟨hZ,hZ⟩
     split
     .exact⟨g,d⟩
     .obtain⟨a,b,c⟩:=FH j g;exact⟨a,b.trans d.1,c.trans d.2⟩
theorem Km:∀{l:az} {w:Pow} {ds:aD},hY ds=64->iV ds (eO l w ds).2.2
 |[],_,_,_=>.refl _
 |x::l,w,ds,h64=>by
  have a:iV ds (go w ds x).2.2:=by
   unfold go;cases hd:aH ds x with
   |none=>exact .refl _
   |some d=>exact .set h64 hd (aaE _ _)
  rw[pF];split
  .exact a.trans (Km (a.len.trans h64))
  .exact a
theorem uk{m:ak}:∀{l:az} {w:Pow} {ds:aD},hY ds=64->iV ds (cL m l w ds).2.2
 |[],_,_,_=>.refl _
 |k::l,w,ds,h64=>by
  unfold cL;cases hd:aH ds k with
  |none=>exact uk h64
  |some d=>
   try dsimp only
   split
   .exact uk h64
   .have a:iV ds (cu ds k (d.rewrite w (bC m d.l)).2.2):=.set h64 hd (FG _ _ _);split
    .exact a.trans (uk (a.len.trans h64))
    .exact a
noncomputable def dg(m:ak)(live:az)(t most:Int)(w:Pow)(ds:aD)(e:cb)(i:Nat):Int×Pow×aD×Nat:=
 let p:=fb m live ds e.object e.tries i
 if p.1≠0 then(p.1,w,ds,0)else
  let q:=db m live t most 65 w ds p.2
  if q.1=14 then(14,q.2.1,q.2.2.1,q.2.2.2.got.length)else
   let z:=eO (cI q.2.2.2.got) q.2.1 q.2.2.1
   (if z.1≠0 then z.1 else q.1,z.2.1,z.2.2,q.2.2.2.got.length)
theorem Tl{m:ak}{live:az}{t most:Int}{w:Pow}{ds:aD}{e:cb}{i:Nat}(a:ds.length=64):iV ds (dg m live t most w ds e i).2.2.1:=by
 unfold dg
 try dsimp only
 split
 .exact .refl _
 .have b:=Kl (m:=m) (live:=live) (t:=t) (most:=most) (f:=65) (w:=w) (x:=(fb m live ds e.object e.tries i).2) a;split
  .exact b
  .exact b.trans (Km (b.len.trans a))
theorem Xh{m:ak}{live:az}{t most:Int}{w:Pow}{ds:aD}{e:cb}{i:Nat}(b:most<=64)(a:∀k d,aH ds k=dB d->hY d.l<=512)(c:hY (aR ds m.drives)=hY live):(dg m live t most w ds e i).2.2.2<=64:=by
 unfold dg
 try dsimp only
 split
 .exact zk _
 .rename_i h;have F:=(Io a c j4).1;have:=(FH (t:=t) b (f:=65) (w:=w) (ds:=ds) F).1.gl;split<;>exact this
noncomputable def fJ(m:ak)(live:az)(t most:Int)(e:cb):List Nat->Pow->aD->Nat->Int×Pow×aD×Nat
 |[],w,ds,k=>(0,w,ds,k)
 |i::l,w,ds,k=>
  let q:=dg m live t most w ds e i
  if q.1≠0 then(q.1,q.2.1,q.2.2.1,k+q.2.2.2)else fJ m live t most e l q.2.1 q.2.2.1 (k+q.2.2.2)
noncomputable def jt(m:ak)(live:az)(t most:Int):List cb->Pow->aD->Nat->Int×Pow×aD×Nat
 |[],w,ds,k=>(0,w,ds,k)
 |e::l,w,ds,k=>
  let q:=fJ m live t most e (qx e.tries.length) w ds k
  if q.1≠0 then q else jt m live t most l q.2.1 q.2.2.1 q.2.2.2
noncomputable def dW(m:ak)(offs:Int)(w:Pow)(ds:aD)(t most:Int):Nat×Int×Pow×aD:=
 if dE w offs then(0,14,w,ds)else if t<0∨t>=(hY (aR ds m.drives):Int)∨most<0∨most>64 then(0,1,w,ds)else if jI (hY (aR ds m.drives):Int) t>4096 then(0,13,w,ds)else
 let c:=cL m (aR ds m.drives) w ds
 if c.1≠0 then(0,c.1,c.2.1,c.2.2)else
  let q:=jt m (aR ds m.drives) t most m.objs c.2.1 c.2.2 0
  (q.2.2.2,q.1,q.2.1,q.2.2.1)
section
variable {pw:eS}
theorem Tm{c:eS}(y:bh)(E:Sl)(live:az)(t most:Int)(k:Nat)(x:dP)(e:Qw.cb)(i:Nat)(G:bc m=ez)(o:live=aR ds m.drives)(Y:k<=2^30)(n:0<=most/\most<=64)(hi:i<e.tries.length)(S:e.tries.length<=2^20)
  (X:St B h0 As λh=>cR h y m/\Rd h E 1 aw live/\eu gV h x e)
  (H:aa B h0 h (bu a pw da offs w ds m::aj c 108 (fI a y E t most k)::As)):
  ai xT 62 #[xL (dB c),xO (bY x).toArray,xJ xP i] h λv h'=>v=xJ xP (dg m live t most w ds e i).1/\
   aa B h0 h' (bu a pw da offs (dg m live t most w ds e i).2.1 (dg m live t most w ds e i).2.2.1 m::aj c 108 (fI a y E t most ((k+(dg m live t most w ds e i).2.2.2:Nat):Int))::As):=by
 refine ts Tryz.func62 ?_ (args:=[(dB c),x,(i:Int)]);have hp:bK m.p=ez:=((dn m).1 ((bU m).1 G).1).2.2.1;have V:=gM G;have hl:live.length<=64:=by rw[o];exact qQ (qU _ _) V
 have g:∀k∈live,∃d,aH ds k=dB d:=λk Y=>by obtain⟨_,d,U,_⟩:=jF (show k∈aR ds m.drives by rw[<-o];exact Y);exact⟨d,U⟩
 have L:=(jJ H).2;have ad:=(jJ H).1;have r:∀k d,aH ds k=dB d->d.l.length<=512:=λk d U=>by have:=L k d U;omega
 obtain⟨p,j⟩:=x6 (fb m live ds e.object e.tries i)
 refine H.boxed λa1 h1 J=>?_;have J:=J.aZ.aJ 3 [1,2,0];refine⟨x,(J.box 2 hZ).aA _ hZ,(Xg y E live t most k x e i G hl g hi S X.cons J).mono ?_⟩;rw[<-j];rintro _ h2 ⟨n1,n2⟩;by_cases D:p.1=0
 rotate_left
 .obtain⟨rfl,P⟩:=n1 D;have eb:dg m live t most w ds e i=(p.1,w,ds,0):=by unfold dg;(try dsimp only);rw[<-j,f8 D]
  rw[eb];exact⟨(et,p.1),hZ,bA (λ_=>⟨hZ,P.aJ 3 [0,1]⟩) λh=>absurd h D⟩
 obtain⟨b,cd,rfl,P⟩:=n2 D;have F:=Io (m:=m) (live:=live) (ds:=ds) r (by rw[o]) (by rw[<-j];exact D);rw[<-j]at F;obtain⟨q,u⟩:=x6 (db m live t most 65 w ds p.2)
 have eb:dg m live t most w ds e i=(if q.1=14 then(14,q.2.1,q.2.2.1,q.2.2.2.got.length)else
   (if(eO (cI q.2.2.2.got) q.2.1 q.2.2.1).1≠0 then(eO (cI q.2.2.2.got) q.2.1 q.2.2.1).1 else q.1,(eO (cI q.2.2.2.got) q.2.1 q.2.2.1).2.1,(eO (cI q.2.2.2.got) q.2.1 q.2.2.1).2.2,q.2.2.2.got.length)):=by
  unfold dg;(try dsimp only);rw[<-j,f9 λh=>h D,<-u]
 refine⟨(dB b,0),hZ,bA (λh=>absurd hZ h) λ_=>?_⟩;have T:St B h0 (BD cd m.p p.2.seed p.2.M::aj a1 111 (bY x)::As) λh=>cR h y m/\Rd h E 1 aw live/\wm h cd m.p p.2.seed p.2.M:=λBs h' Z=>by
  obtain⟨z1,z2,_⟩:=X.cons.cons Bs h' Z;exact⟨z1,z2,aiP Bs h' Z⟩
 refine(Xf y E live t most k p.2 G hp hl g ii F.1 F.2 n T P).mono ?_;rw[<-u];rintro _ h3 ⟨rfl,W⟩;refine⟨_,hZ,aX (λI=>?_) λI=>?_⟩
 .rw[eb,f8 I];exact⟨by rw[I],W.aJ 5 [0,1]⟩
 rw[eb,f9 I];have O:=(FH (m:=m) (live:=live) (t:=t) (most:=most) n.2 (f:=65) (w:=w) (ds:=ds) F.1).1;rw[<-u]at O;obtain⟨wS,gS,z⟩:=Gw (W.aJ 3 [2,0,1]);have ab:=z.box 4 hZ;have z:=z.aJ 5 [3,4,0,2];have N:∀s∈q.2.2.2.got,0<=s/\s<64:=λs K=>by
  have K:=O.gi s K;rw[o]at K;exact gv G s (jF K).1
 refine⟨c,hZ,dB a,(z.box 1 hZ).cell0 hZ,b,hZ,gS,(z.box 3 hZ).cell hZ,?_⟩;refine(ado gS q.2.2.2.got (St.ey (A:=an 3 gS 1 aw q.2.2.2.got) 1 hZ λh' u=>u.1.seq (λ_=>rfl) u.2) (by have:=O.gl;omega) N z).xc λh5 R=>⟨_,hZ,⟨(R.box 1 hZ).cell0 hZ,x7⟩,bA (λQ=>?_) λQ=>?_⟩
 .rw[f8 Q];exact⟨hZ,R.aJ 6 [0,1]⟩
 .rw[f9 λh=>h Q];exact⟨hZ,R.aJ 6 [0,1]⟩
def Lr(y:bh)(m:ak)(i:Nat)(e:Qw.cb)(x:dP):HP:=
 ⟨λh q=>(bI y m).p h q/\gV.p h q x e/\∃d,Qw.Seq h q y.2.2.2.2.2.2.2 4 bY d/\d[i]?=dB x,
  λa g=>⟨(bI y m).loc a.1 g,gV.loc a.2.1 g,by obtain⟨d,b,c⟩:=a.2.2;exact⟨d,b.ac g,c⟩⟩,
  λa f=>⟨(bI y m).mono a.1 f,gV.mono a.2.1 f,by obtain⟨d,b,c⟩:=a.2.2;exact⟨d,b.mono f,c⟩⟩⟩
theorem air{y:bh}{i:Nat}(e:i<hY m.objs)(H:aa B h0 h (bI y m::As)):∃x,aa B h0 h (Lr y m i m.objs[i] x::As):=
 aa.pD (H.eW 0 hZ λq c=>by
  have a:=c;obtain⟨b,f,g,d⟩:=bN.kN a.objs;exact⟨b[i]'ii,c,d i ii e,b,f,qc ii⟩)
theorem aiQ{y:bh}{i:Nat}{e:Qw.cb}{x:dP}(H:aa B h0 h (Lr y m i e x::As)):aa B h0 h (bI y m::As):=H.eW 0 hZ λq a=>a.1
theorem Xi(t most:Int)(O:bc m=ez)(ht:-(2^62)<=t/\t<=2^62)(H:aa B h0 h (bu a pw da offs w ds m::As)):
  ai xT 24 #[xL (dB a),xJ xP t,xJ xP most] h λv h'=>v=.tuple #[xJ xP ((dW m offs w ds t most).1:Nat),xJ xP (dW m offs w ds t most).2.1]/\aa B h0 h' (bu a pw da offs (dW m offs w ds t most).2.2.1 (dW m offs w ds t most).2.2.2 m::As):=by
 refine ts Tryz.func24 ?_ (v7 (ws [] [(6,8),(14,20)] (v7 (u7 (v6 [] [(6,8),(29,58)] (v1 (ws [(29,ka)] [(29,49)] u9))) (v7 (u7 (v7 (v1 (v2 [(69,aU)] [(6,8),(11,14),(69,92)] (v7 (v7 (u7 (v1 (v7 (v7 (v1 (v2 [(76,aU)] [(6,8),(12,14),(76,91)] u9))))) u9)))))) u9))))));have a9:=gM O;have ah:=(jJ H).1;obtain⟨live,f⟩:=x6 (aR ds m.drives)
 have ao:live.length<=64:=by rw[f];exact qQ (qU _ _) a9
 obtain⟨G,l⟩:=x6 (dW m offs w ds t most)
 rw[<-l];unfold dW at l;rw[<-f]at l;refine aG (aY (λe=>jj) λ_=>(Qj H).mono ?_);rintro _ h1 ⟨rfl,rfl⟩;refine⟨_,hZ,aY (λe=>?_) λe1=>?_⟩
 .rw[f8 e]at l;rw[l];exact⟨hZ,H⟩
 rw[f9 ln]at l;refine(acF O H).x0 λy h2 R2=>?_;have H2:=H.ci R2;refine⟨y,hZ,(acE O (H2.aJ 2 [1,0])).x0 λc h3 R3=>?_⟩;rw[<-f]at R3;have H3:=H2.ci R3;refine⟨c,hZ,H3.boxed λa5 h5 N=>?_⟩;have N:=(N.aZ).aJ 4 [3,0,1,2];have ab:=(N.own 2 hZ).len;have W:=N.box 1 hZ;refine aG (bB (λ(b:Bool) h'=>b=decide (t<0∨t>=(live.length:Int)∨most<0∨most>64)/\h'=h5) ?_ ?_)
 .refine af (λe=>⟨by rw[g0 (.inl e)],hZ⟩) λea=>⟨a5,hZ,c,W.cell hZ,af (λe=>⟨by rw[g0 (.inr (.inl ii))],hZ⟩) λeb=>af (λe=>⟨by rw[g0 (.inr (.inr (.inl e)))],hZ⟩) λec=>⟨?_,hZ⟩⟩
  rw[decide_eq_decide];omega
 rintro b h6 ⟨rfl,rfl⟩;refine af (λe=>by rw[f8 e]at l;rw[l];exact⟨hZ,N.aJ 4 [0]⟩) λe2=>?_;rw[f9 e2]at l;have D:0<=most/\most<=64:=ii
 refine⟨a5,hZ,c,W.cell hZ,(Cd ((c.len:Nat):Int) t h6 ii ht).xa ?_⟩;rw[ab];refine⟨_,hZ,af (λe=>by rw[f8 e]at l;rw[l];exact⟨hZ,N.aJ 4 [0]⟩) λe3=>?_⟩;rw[f9 e3]at l;dsimp only at l;have hS:St B h0 (aj a5 108 (fI a y c t most 0)::an 3 c 1 aw live::bI y m::As) λh=>bQ h a5 108 (fI a y c t most 0)/\cR h y m/\Rd h c 1 aw live:=λBs h' J=>
  ⟨(St.ey (A:=aj a5 108 (fI a y c t most 0)) 0 hZ λ_ q=>q.1) Bs h' J,(St.ey (A:=bI y m) 2 hZ λ_ q=>q) Bs h' J,(St.ey (A:=an 3 c 1 aw live) (Q:=λh=>Rd h c 1 aw live) 1 hZ λh' q=>q.1.seq (λ_=>rfl) q.2) Bs h' J⟩
 refine(Xb y c live t most 0 O ao (λk hk=>by obtain⟨_,d,hd,_⟩:=jF (show k∈aR ds m.drives by rw[<-f];exact hk);exact⟨d,hd⟩) hS N).xc λh8 H8=>?_;obtain⟨U,X⟩:=x6 (cL m live w ds)
 have T:iV ds U.2.2:=by rw[X];exact uk ah
 rw[<-X]at H8 l⊢;refine⟨_,hZ,bA (λe=>by rw[f8 e]at l;rw[l];exact⟨hZ,H8.aJ 4 [0]⟩) λe4=>?_⟩;rw[f9 λh=>h e4]at l;have ay:=H8.box 1 hZ;have a7:cR h8 y m:=H8.at 3 hZ;refine⟨a5,hZ,y.2.2.2.2.2.2.2,by rw[addr_add];exact ay.cell hZ,?_⟩;have bd:m.objs.length<=12:=((bU m).1 O).2.2.2.1;have a4:∀e∈m.objs,e.tries.length<=8:=λe he=>by
  have h1:=(gr m e).1 (((bU m).1 O).2.2.2.2.1 e he);have h2:=nP h1.2.2.1.2;omega
 have b2:=bN.len a7.objs;have b0:St B h0 (an 3 c 1 aw live::bI y m::As) λh=>cR h y m/\Rd h c 1 aw live:=λBs h' J=>
  ⟨(St.ey (A:=bI y m) 1 hZ λ_ q=>q) Bs h' J,(St.ey (A:=an 3 c 1 aw live) (Q:=λh=>Rd h c 1 aw live) 0 hZ λh' q=>q.1.seq (λ_=>rfl) q.2) Bs h' J⟩
 refine aq (λz:Nat×Pow×aD×Nat=>(z.1:Int)) (λz h'=>z.1<=m.objs.length/\z.2.2.2<=z.1*512/\iV ds z.2.2.1/\jt m live t most m.objs U.2.1 U.2.2 0=jt m live t most (m.objs.drop z.1) z.2.1 z.2.2.1 z.2.2.2/\
  aa B h0 h' (bu a pw da offs z.2.1 z.2.2.1 m::aj a5 108 (fI a y c t most (z.2.2.2:Nat))::an 3 c 1 aw live::bI y m::As)) (λz=>m.objs.length-z.1) (0,U.2.1,U.2.2,0) hZ ⟨zk _,zk _,T,hZ,H8⟩ ?_
 rintro⟨i,w1,ds1,k⟩ h9 ⟨hi,hk,Z,I,H9⟩;dsimp only at hi hk Z I H9⊢;refine af (λe5=>?_) λe5=>?_
 rotate_left
 .have a6:i=m.objs.length:=ii
  rw[a6,yw]at I;rw[I]at l;rw[l];exact⟨a5,hZ,(k:Int),(H9.box 1 hZ).cell hZ,hZ,H9.aJ 4 [0]⟩
 have P:i<m.objs.length:=by have b1:(i:Int)<(y.2.2.2.2.2.2.2.len:Int):=e5;omega
 obtain⟨x,S⟩:=air P (H9.aJ 4 [3,0,1,2]);obtain⟨E,M⟩:=x6 (m.objs[i])
 rw[<-M]at S;obtain⟨bb,bk,ys,al,a1⟩:=S.at 0 rfl;obtain⟨am,ax⟩:=qk.1 a1;have b3:E.tries.length<=8:=a4 E (by rw[M];exact qf P);refine al.de (g:=bY) i hZ am x (by rw[ax]) ?_;refine S.alloc ae hZ λV bq R=>?_;have R:=R.aZ;refine R.storeAll ae 0 hZ hZ (bY x) hZ hZ hZ hZ λb4 r=>?_;have r:=r.aJ 5 [2,3,0,1,4];have b5:=(r.at 3 hZ).2.1.2.len;refine⟨x.2.2.2,(r.box 2 hZ).cell hZ,?_⟩;have a3:St B h0 (aj V 111 (bY x)::Lr y m i E x::an 3 c 1 aw live::As) λh=>cR h y m/\Rd h c 1 aw live/\eu gV h x E:=λBs h' J=>by
  obtain⟨z1,z2,_⟩:=(St.ey (A:=Lr y m i E x) (Q:=λh=>(Lr y m i E x).p h λb=>b<h.size) 1 rfl λ_ q=>q) Bs h' J;exact⟨z1,(St.ey (A:=an 3 c 1 aw live) (Q:=λh=>Rd h c 1 aw live) 2 hZ λh' q=>q.1.seq (λ_=>rfl) q.2) Bs h' J,z2⟩
 have e0:m.objs.drop i=E::m.objs.drop (i+1):=by rw[M];exact qL P
 rw[e0,jt]at I;obtain⟨Q,hQ⟩:=x6 (fJ m live t most E (qx E.tries.length) w1 ds1 k)
 rw[<-hQ]at I;refine aq (λz:Nat×Pow×aD×Nat=>(z.1:Int)) (λz h'=>z.1<=E.tries.length/\z.2.2.2<=k+z.1*64/\iV ds z.2.2.1/\Q=fJ m live t most E ((qx E.tries.length).drop z.1) z.2.1 z.2.2.1 z.2.2.2/\
  aa B h0 h' (bu a pw da offs z.2.1 z.2.2.1 m::aj a5 108 (fI a y c t most (z.2.2.2:Nat))::aj V 111 (bY x)::Lr y m i E x::an 3 c 1 aw live::As)) (λz=>E.tries.length-z.1) (0,w1,ds1,k) hZ ⟨zk _,qm _,Z,hQ,r⟩ ?_
 rintro⟨j,w2,s,k2⟩ bs ⟨hj,a8,F,o,u⟩;dsimp only at hj a8 F o u⊢;have bl:i<=12:=ii
 refine af (λe6=>?_) λe6=>?_
 .have ar:j<E.tries.length:=by have ap:(j:Int)<(x.2.2.2.len:Int):=e6;omega
  have hd:(qx E.tries.length).drop j=j::(qx E.tries.length).drop (j+1):=by rw[qL i5,vk]
  rw[hd,fJ]at o;have L:live=aR s m.drives:=by rw[F.live];exact f
  refine⟨x,(u.box 2 hZ).aA _ hZ,(Tm y c live t most k2 x E j O L ii D ar ii a3 u).xc λbr K=>?_⟩;have ad:=Xh (m:=m) (live:=live) (t:=t) (most:=most) (w:=w2) (ds:=s) (e:=E) (i:=j) D.2 (λk d hd=>by have:=(jJ u).2 k d hd;omega) (by rw[<-L]);have Y:=Tl (m:=m) (live:=live) (t:=t) (most:=most) (w:=w2) (ds:=s) (e:=E) (i:=j) (F.len.trans ah);obtain⟨b,hb⟩:=x6 (dg m live t most w2 s E j)
  rw[<-hb]at K o ad Y⊢;refine⟨_,hZ,bA (λe7=>?_) λe7=>?_⟩
  .rw[f8 e7]at o;rw[o,f8 e7]at I;rw[I]at l;rw[l];exact⟨a5,hZ,((k2+b.2.2.2:Nat):Int),(K.box 1 hZ).cell hZ,hZ,K.aJ 5 [0]⟩
  .rw[f9 λh=>h e7]at o;refine⟨(j+1,b.2.1,b.2.2.1,k2+b.2.2.2),i7,⟨i4,i4,F.trans Y,o,K⟩,i4⟩
 .have a0:j=E.tries.length:=by have ap:¬(j:Int)<(x.2.2.2.len:Int):=e6;omega
  rw[a0,List.drop_of_length_le i6,fJ]at o;rw[o,f9 λh=>h rfl]at I;have a2:=(aiQ (u.aJ 4 [3,0,1])).aJ 3 [1,2,0];refine⟨(i+1,w2,s,k2),i7,⟨i4,i4,F,I,?_⟩,i4⟩;exact a2.aJ 4 [0,1,3,2]
end
section
variable {e f:ba}
structure tJ (m:ak) (d e:ba):Prop where
 lost:e.lost=d.lost
 room:e.room=d.room
 pg:∀c∈e.l,cH c≠et->c∈d.l∨c∈aP m
 whole:(∀c∈aP m,c∈d.l)->∀c∈aP m,c∈e.l
 q:d.laid=[]/\d.has=eH->e.laid=[]/\e.has=eH
theorem tJ.same(a:e.lost=d.lost)(g:e.room=d.room)(h3:e.l=d.l)(f:d.laid=[]/\d.has=eH->e.laid=[]/\e.has=eH:=by first|exact id|exactλ_=>⟨hZ,hZ⟩):tJ m d e:=⟨a,g,λc h _=>.inl (by rw[<-h3];exact h),λh c b=>(by rw[h3];exact h c b),f⟩
theorem tJ.trans(a:tJ m d e)(b:tJ m e f):tJ m d f:=⟨b.lost.trans a.lost,b.room.trans a.room,λc h g=>by
 rcases b.pg c h g with h|h
 .exact a.pg c h g
 .exact .inr h,λh=>b.whole (a.whole h),λh=>b.q (a.q h)⟩
def Ls(m:ak)(d:ba):Prop:=jG d.l+2<=d.room∨∀c∈aP m,c∈d.l
theorem aeO(m:ak)(d:ba):(d.rewrite Pow.new (bC m d.l)).2.1=Pow.new/\tJ m d (d.rewrite Pow.new (bC m d.l)).2.2/\(Ls m d->Ls m (d.rewrite Pow.new (bC m d.l)).2.2)/\((d.rewrite Pow.new (bC m d.l)).1=0->∀c∈aP m,c∈(d.rewrite Pow.new (bC m d.l)).2.2.l):=by
 have a:∀{n:Int},n≠0->Pow.new=Pow.new/\tJ m d d/\(Ls m d->Ls m d)/\(n=0->∀c∈aP m,c∈d.l):=λh=>⟨hZ,.same hZ hZ hZ,id,λe=>absurd e h⟩
 have f:∀c∈aP m,c∈bC m d.l:=λc b=>ze _ b;unfold ba.rewrite;split
 .exact a (n:=1) i0
 .split
  .exact a (n:=5) i0
  .split
   .exact a (n:=7) i0
   .split
    .exact a (n:=14) i0
    .rw[md gI];refine⟨hZ,⟨hZ,hZ,λc b g=>.inr ?_,λ_=>f,λ_=>⟨hZ,hZ⟩⟩,λ_=>.inr f,λ_=>f⟩;rcases qt.1 b with h|h
     .exact h
     .obtain⟨r,_,rfl⟩:=qo.1 h;exact absurd (AY r) g
theorem aiR(m:ak)(d:ba)(r:cU):(d.append Pow.new (cF r)).2.1=Pow.new/\tJ m d (d.append Pow.new (cF r)).2.2:=by
 have a:Pow.new=Pow.new/\tJ m d d:=⟨hZ,.same hZ hZ hZ⟩
 unfold ba.append;split
 .exact a
 .split
  .exact a
  .split
   .exact a
   .split
    .exact a
    .rw[md gI];refine⟨hZ,hZ,hZ,λc b e=>?_,λh c b=>ze _ (h c b),λ_=>⟨hZ,hZ⟩⟩;rcases qt.1 b with h|h
     .exact .inl h
     .rw[qp.1 h]at e;exact absurd (AY r) e
theorem aeP(m:ak)(d:ba):(d.sync Pow.new).2.1=Pow.new/\tJ m d (d.sync Pow.new).2.2:=by
 unfold ba.sync;split
 .exact⟨hZ,.same hZ hZ hZ⟩
 .rw[md gI];exact⟨hZ,.same hZ hZ hZ⟩
theorem agh(m:ak)(d:ba)(n:Int):(fG m Pow.new d n).2.1=Pow.new/\tJ m d (fG m Pow.new d n).2.2:=by
 have a:Pow.new=Pow.new/\tJ m d d:=⟨hZ,.same hZ hZ hZ⟩
 unfold fG;split
 .exact a
 .split
  .exact a
  .split
   .exact a
   .have:=aeO m d;exact⟨this.1,this.2.1⟩
structure mZ (T:ba->ba->Prop) (ds ds':aD):Prop where
 len:hY ds'=hY ds
 at_:∀k d,aH ds k=dB d->∃e,aH ds' k=dB e/\T d e
 no:∀k,aH ds k=et->aH ds' k=et
variable {T:ba->ba->Prop}
theorem mZ.refl(h:∀d,T d d)(ds:aD):mZ T ds ds:=⟨hZ,λ_ d a=>⟨d,a,h d⟩,λ_ h=>h⟩
theorem mZ.trans(n:∀{d e f},T d e->T e f->T d f){a b c:aD}(g:mZ T a b)(i:mZ T b c):mZ T a c:=⟨i.len.trans g.len,λk d o=>by
 obtain⟨e,l,j⟩:=g.at_ k d o;obtain⟨f,m,t2⟩:=i.at_ k e l;exact⟨f,m,n j t2⟩,λk h=>i.no k (g.no k h)⟩
theorem mZ.set(g:∀d,T d d)(c:hY ds=64){k:Int}(f:aH ds k=dB d)(h:T d e):mZ T ds (cu ds k e):=⟨oT _ _ _,λs x a=>by
 rw[ib c f];split
 .rename_i b;subst b;rw[f]at a;injection a with a;subst a
  exact⟨e,hZ,h⟩
 .exact⟨x,a,g x⟩,λs b=>by
 rw[ib c f];split
 .rename_i h;subst h;rw[f]at b;cases b
 .exact b⟩
theorem mZ.back(G:mZ T ds ds'){k:Int}(b:aH ds' k=dB e):∃d,aH ds k=dB d/\T d e:=by
 cases hd:aH ds k with
 |none=>rw[G.no k hd]at b;cases b
 |some d=>
  obtain⟨x,a,h⟩:=G.at_ k d hd;rw[b]at a;injection a with a;subst a
  exact⟨d,hZ,h⟩
abbrev Gr(m:ak):=mZ (tJ m)
theorem Gr.refl(ds:aD):Gr m ds ds:=mZ.refl (λ_=>.same hZ hZ hZ) ds
theorem Gr.tr{a b c:aD}(d:Gr m a b)(e:Gr m b c):Gr m a c:=mZ.trans (λa b=>a.trans b) d e
theorem Gr.st(a:hY ds=64){k:Int}(b:aH ds k=dB d)(h:tJ m d e):Gr m ds (cu ds k e):=mZ.set (λ_=>.same hZ hZ hZ) a b h
theorem Ip{live set order:az}{r:cU}{id:Nat}(a:hY ds=64):∀{l:List Nat},(gm m live set order (cF r) id Pow.new ds l).1.2.1=Pow.new/\Gr m ds (gm m live set order (cF r) id Pow.new ds l).1.2.2
 |[]=>⟨hZ,.refl _⟩
 |i::l=>by
  unfold gm
  try dsimp only
  cases hd:aH ds (fS order ((id:Int)+i))with
  |none=>exact Ip a
  |some d=>
   try dsimp only
   split
   .exact Ip a
   .unfold jr;obtain⟨b,c⟩:=agh m d 1
    try dsimp only
    split
    .exact⟨b,.st a hd c⟩
    .rw[rk,b];obtain⟨e,f⟩:=aiR m (fG m Pow.new d 1).2.2 r;exact⟨e,.st a hd (c.trans f)⟩
theorem Um{live:az}{t most:Int}:∀{f:Nat} {ds:aD} {x:jC},hY ds=64->(db m live t most f Pow.new ds x).2.1=Pow.new/\Gr m ds (db m live t most f Pow.new ds x).2.2.1
 |0,_,_,_=>⟨hZ,.refl _⟩
 |f+1,ds,x,h64=>by
  unfold db
  try dsimp only
  split
  .exact⟨hZ,.refl _⟩
  .split
   .exact⟨hZ,.refl _⟩
   .split
    .exact⟨hZ,.refl _⟩
    .obtain⟨b,a⟩:(fa m live (iL m.p x.seed x.W t).1 Pow.new ds x).2.1=Pow.new/\Gr m ds (fa m live (iL m.p x.seed x.W t).1 Pow.new ds x).2.2.1:=Ip h64;split
     .exact⟨b,a⟩
     .rw[b];obtain⟨h3,c⟩:=Um (live:=live) (t:=t) (most:=most) (f:=f) (x:=(fa m live (iL m.p x.seed x.W t).1 Pow.new ds x).2.2.2) (a.len.trans h64);exact⟨h3,a.tr c⟩
theorem Rj:∀{l:az} {ds:aD},hY ds=64->(eO l Pow.new ds).2.1=Pow.new/\Gr m ds (eO l Pow.new ds).2.2
 |[],_,_=>⟨hZ,.refl _⟩
 |x::l,ds,h64=>by
  have a:(go Pow.new ds x).2.1=Pow.new/\Gr m ds (go Pow.new ds x).2.2:=by
   unfold go;cases hd:aH ds x with
   |none=>exact⟨hZ,.refl _⟩
   |some d=>exact⟨(aeP m d).1,.st h64 hd (aeP m d).2⟩
  rw[pF];split
  .rw[a.1];obtain⟨h3,b⟩:=Rj (l:=l) (a.2.len.trans h64);exact⟨h3,a.2.tr b⟩
  .exact a
theorem ads{live:az}{t most:Int}{e:Qw.cb}{i:Nat}(a:ds.length=64):(dg m live t most Pow.new ds e i).2.1=Pow.new/\Gr m ds (dg m live t most Pow.new ds e i).2.2.1:=by
 unfold dg
 try dsimp only
 split
 .exact⟨hZ,.refl _⟩
 .obtain⟨c,b⟩:=Um (m:=m) (live:=live) (t:=t) (most:=most) (f:=65) (x:=(fb m live ds e.object e.tries i).2) a;split
  .exact⟨c,b⟩
  .rw[c];obtain⟨h3,d⟩:=Rj (m:=m) (l:=cI (db m live t most 65 Pow.new ds (fb m live ds e.object e.tries i).2).2.2.2.got) (b.len.trans a);exact⟨h3,b.tr d⟩
theorem MT{live:az}{t most:Int}{e:Qw.cb}:∀{l:List Nat} {ds:aD} {k:Nat},hY ds=64->(fJ m live t most e l Pow.new ds k).2.1=Pow.new/\Gr m ds (fJ m live t most e l Pow.new ds k).2.2.1
 |[],_,_,_=>⟨hZ,.refl _⟩
 |i::l,ds,k,h64=>by
  obtain⟨b,a⟩:=ads (m:=m) (live:=live) (t:=t) (most:=most) (e:=e) (i:=i) h64;unfold fJ
  try dsimp only
  split
  .exact⟨b,a⟩
  .rw[b];obtain⟨h3,c⟩:=MT (live:=live) (t:=t) (most:=most) (e:=e) (l:=l) (k:=k+(dg m live t most Pow.new ds e i).2.2.2) (a.len.trans h64);exact⟨h3,a.tr c⟩
theorem Un{live:az}{t most:Int}:∀{l:List Qw.cb} {ds:aD} {k:Nat},ds.length=64->(jt m live t most l Pow.new ds k).2.1=Pow.new/\Gr m ds (jt m live t most l Pow.new ds k).2.2.1
 |[],_,_,_=>⟨hZ,.refl _⟩
 |e::l,ds,k,h64=>by
  obtain⟨b,a⟩:=MT (m:=m) (live:=live) (t:=t) (most:=most) (e:=e) (l:=qx e.tries.length) (k:=k) h64;unfold jt
  try dsimp only
  split
  .exact⟨b,a⟩
  .rw[b];obtain⟨h3,c⟩:=Un (live:=live) (t:=t) (most:=most) (l:=l) (k:=(fJ m live t most e (qx e.tries.length) Pow.new ds k).2.2.2) (a.len.trans h64);exact⟨h3,a.tr c⟩
def DO(m:ak)(d e:ba):Prop:=tJ m d e/\(Ls m d->Ls m e)
theorem DO.refl(d:ba):DO m d d:=⟨.same hZ hZ hZ,id⟩
theorem Iq:∀{l:az} {ds:aD},hY ds=64->(cL m l Pow.new ds).2.1=Pow.new/\mZ (DO m) ds (cL m l Pow.new ds).2.2/\((cL m l Pow.new ds).1=0->∀k∈l,∀e,aH (cL m l Pow.new ds).2.2 k=dB e->∀c∈aP m,c∈e.l)
 |[],ds,_=>⟨hZ,.refl DO.refl ds,λ_ k r=>by cases r⟩
 |k::l,ds,h64=>by
  have tr:∀{a b c:aD},mZ (DO m) a b->mZ (DO m) b c->mZ (DO m) a c:=mZ.trans λa b=>⟨a.1.trans b.1,λh=>b.2 (a.2 h)⟩
  unfold cL;cases hd:aH ds k with
  |none=>
   obtain⟨p,n,h3⟩:=Iq (l:=l) h64;refine⟨p,n,λh j g e i=>?_⟩;rcases qT.1 g with rfl|g
   .rw[show aH (cL m l Pow.new ds).2.2 j=et from n.no j hd]at i;cases i
   .exact h3 h j g e i
  |some d=>
   try dsimp only
   have f:∀{ds1:aD} {s:ba},hY ds1=64->aH ds1 k=dB s->(∀c∈aP m,c∈s.l)->mZ (DO m) ds ds1->(cL m l Pow.new ds1).2.1=Pow.new/\mZ (DO m) ds (cL m l Pow.new ds1).2.2/\((cL m l Pow.new ds1).1=0->∀j∈k::l,∀e,aH (cL m l Pow.new ds1).2.2 j=dB e->∀c∈aP m,c∈e.l):=λ{ds1 s} g1 g2 g3 g4=>by
    obtain⟨p,n,h3⟩:=Iq (l:=l) g1;refine⟨p,tr g4 n,λh j g e i=>?_⟩;rcases qT.1 g with rfl|g
    .obtain⟨x,o,z⟩:=n.back i;rw[g2]at o;injection o with o;subst o
     exact z.1.whole g3
    .exact h3 h j g e i
   split
   .rename_i r;exact f h64 hd (λc u=>by rw[r];exact ze _ u) (.refl DO.refl ds)
   .obtain⟨t,y,v,w⟩:=aeO m d;have q:mZ (DO m) ds (cu ds k (d.rewrite Pow.new (bC m d.l)).2.2):=.set DO.refl h64 hd ⟨y,v⟩;split
    .rename_i h0;rw[t];exact f (q.len.trans h64) (by rw[ib h64 hd,f8 rfl]) (w h0) q
    .rename_i h0;exact⟨t,q,λh=>absurd h h0⟩
theorem adt{M:Int->ak}{t most:Int}(H:Hi M m ds)(v:bc m=ez)(o:hY ds=64):(dW m 0 Pow.new ds t most).2.2.1=Pow.new/\Hi M m (dW m 0 Pow.new ds t most).2.2.2/\(aio m ds->aio m (dW m 0 Pow.new ds t most).2.2.2)/\Gr m ds (dW m 0 Pow.new ds t most).2.2.2:=by
 have p:∀{l:bH},(fx m l=ez)↔∀c∈aP m,c∈l:=λ{l}=>by
  unfold fx;rw[v,zS,qK];exact⟨λh c r=>hU (h c r),λh c r=>g0 (h c r)⟩
 have a:∀{D:aD},Gr m ds D->Hi M m D:=λG=>H.same v λk e f=>by
  obtain⟨d,b,g⟩:=G.back f;exact⟨d,b,g.pg⟩
 unfold dW;split
 .exact⟨hZ,H,id,.refl ds⟩
 split
 .exact⟨hZ,H,id,.refl ds⟩
 split
 .exact⟨hZ,H,id,.refl ds⟩
 obtain⟨w,j,c3⟩:=Iq (m:=m) (l:=aR ds m.drives) o;have n:Gr m ds (cL m (aR ds m.drives) Pow.new ds).2.2:=⟨j.len,λk d b=>by obtain⟨e,f,g⟩:=j.at_ k d b;exact⟨e,f,g.1⟩,j.no⟩
 try dsimp only
 split
 .refine⟨w,a n,λF k e f s=>?_,n⟩;obtain⟨d,b,g⟩:=j.back f;rcases F k d b (g.1.lost.symm.trans s)with h|h
  .exact(g.2 (.inl h)).imp id p.2
  .exact(g.2 (.inr (p.1 h))).imp id p.2
 .rename_i h0;rw[w];obtain⟨y,q⟩:=Un (m:=m) (live:=aR ds m.drives) (t:=t) (most:=most) (l:=m.objs) (k:=0) (j.len.trans o);refine⟨y,a (n.tr q),λ_ k e f s=>.inr (p.2 ?_),n.tr q⟩;obtain⟨d,b,g⟩:=q.back f;obtain⟨u,i,x⟩:=n.back b;exact g.whole (c3 (Decidable.byContradiction h0) k (se.2 ⟨H.at_ k u i,u,i,by rw[<-x.lost,<-g.lost];exact s⟩) d b)
end
structure Wt (z:Prop) (i:Nat) (p:Pm) (m:ak) (ds:aD):Prop where
 may:bc m=ez
 len:hY ds=64
 pe:m.p=p
 dr:∀k∈m.drives,k<9
 hi:∃M,Hi M m ds
 slim:z->∀k d,aH ds k=dB d->d.lost=eH->jG d.l+1<=hY d.l/\jG d.l+2<=d.room
 seq:m.seq<=i+1
 ent:∀e∈m.objs,e.name∈rv/\e.length<=3*(p.1*p.2.2)+1
variable {i:Nat}
section
variable {z:Prop} {p:Pm}
theorem Wt.more(W:Wt z i p m ds):Wt z (i+1) p m ds:=⟨W.may,W.len,W.pe,W.dr,W.hi,W.slim,by have:=W.seq;omega,W.ent⟩
theorem Wt.mono(W:Wt z i p m ds){j:Nat}(h:i<=j):Wt z j p m ds:=⟨W.may,W.len,W.pe,W.dr,W.hi,W.slim,by have:=W.seq;omega,W.ent⟩
theorem Wt.lay(W:Wt z i p m ds){ds1 ds':aD}{n:ak}{L:az}{R:Int->List cU}{N:Int->Int}(x:bc n=ez)(D:n.p=m.p)(J:n.seq=m.seq+1)(s:∀k∈n.drives,k<9)(g:∀e∈n.objs,e.name∈rv/\e.length<=3*(p.1*p.2.2)+1)
  (v:∀k∈m.drives,k∈n.drives) (I:∀k d,k∈n.drives->aH ds1 k=dB d->d.lost=eH->k∈L)
  (y:∀k d,aH ds1 k=dB d->aH ds k=dB d∨(k∈n.drives/\d.l=[]/\d.lost=eH/\2<=d.room/\R k=[]/\(k∈L->ct m d (N k)=d)))
  (A:hY ds'=64) (t:∀k,aH ds' k=(aH ds1 k).map λd=>if k∈L then dD ((R k).map cF++aP n) (ct m d (N k))else d)
  (w:∀k d,aH ds' k=dB d->hY d.l<=d.room):Wt z (i+1) p n ds':=by
 obtain⟨M,H⟩:=W.hi;have G:=aij x s (by rw[D,W.pe];exact g);have q:∀k d,aH ds1 k=dB d->k∈n.drives:=λk d o=>by
  rcases y k d o with h|h
  .exact v k (H.at_ k d h)
  .exact h.1
 refine⟨x,A,D.trans W.pe,s,⟨_,H.next W.may x J G λk E o=>?_⟩,λK k E o B=>?_,by have:=W.seq;omega,g⟩
 .obtain⟨d,h0,rfl⟩:=sg (f:=λk d=>if k∈L then dD ((R k).map cF++aP n) (ct m d (N k))else d) t o;refine⟨q k d h0,λc a u=>?_⟩;have old:c∈(if k∈L then ct m d (N k)else d).l->c∈aP n∨∃d,aH ds k=dB d/\(c∈d.l∨c∈aP m):=λa=>by
   rcases y k d h0 with h|⟨_,he,_,_,_,hm⟩
   .refine .inr ⟨d,h,?_⟩;split at a
    .exact aal c a u
    .exact .inl a
   .split at a
    .rename_i j;rw[hm j,he]at a;cases a
    .rw[he]at a;cases a
  split at a
  .rename_i j;rw[f8 j]at old;rcases aam a with h|h
   .exact old h
   .rcases qt.1 h with h|h
    .obtain⟨r,_,rfl⟩:=qo.1 h;exact absurd (AY r) u
    .exact .inl h
  .rename_i j;rw[f9 j]at old;exact old a
 .have F:=w k E o;obtain⟨d,h0,rfl⟩:=sg (f:=λk d=>if k∈L then dD ((R k).map cF++aP n) (ct m d (N k))else d) t o;have b:d.lost=eH:=by
   split at B
   .rwa [(nw _ _).1,(sY _ _ _).1]at B
   .exact B
  have j:=I k d (q k d h0) h0 b;rw[f8 j]at F⊢;have P:=aao x (R k) (ct m d (N k));have Q:=Gv (ct m d (N k)).l;rcases y k d h0 with h|⟨_,he,_,h3,hR,hm⟩
  .have S:=(aan (d:=d) (N:=N k) W.may).2 (W.slim K k d h b).1;omega
  .have O:jG (dD ((R k).map cF++aP n) (ct m d (N k))).l=0:=by rw[hm j,hR,xZ,he,List.map_nil,we,we,uj]
   have T:(dD ((R k).map cF++aP n) (ct m d (N k))).room=d.room:=by rw[(nw _ _).2,(sY _ _ _).2]
   omega
theorem Wt.put(W:Wt z i p m ds){name:ByteArray}{b:aL}(s:name∈rv)(A:(hY b:Int)<=3*(p.1*p.2.2)+1)(a:∀k d,aH (di m 0 Pow.new ds name b).2.2.2 k=dB d->hY d.l<=d.room):∃e n ds',di m 0 Pow.new ds name b=(e,n,Pow.new,ds')/\Wt z (i+1) p n ds':=by
 obtain⟨v,x⟩:=Mq (offs:=0) (name:=name) (b:=b) gI W.len W.may;by_cases f:∃e,di m 0 Pow.new ds name b=(e,m,Pow.new,ds)
 .obtain⟨e,c⟩:=f;exact⟨e,m,ds,c,W.more⟩
 have r:dY m (dE Pow.new 0) ds name b.length=0:=Decidable.byContradiction λh=>f ⟨_,v h⟩;obtain⟨D,q⟩:=x r;cases ht:cV m.p m.next (splitB m.p b).length with
 |none=>exact absurd ⟨_,D ht⟩ f
 |some t=>
  obtain⟨g,E,w⟩:=q t ht;obtain⟨ds',j,y,B⟩:=w (eq_true_of_ne_false λh=>f ⟨_,E h⟩);refine⟨_,_,ds',j,W.lay g hZ hZ W.dr (λe c=>?_) (λ_ h=>h) (λk d o u h3=>se.2 ⟨o,d,u,h3⟩) (λk d h=>.inl h) y B (by rw[j]at a;exact a)⟩;rcases xX.1 c with c|rfl
  .exact W.ent e c
  .exact⟨s,A⟩
theorem Wt.com(W:Wt z i p m ds){ds1:aD}{n:ak}(s:hY ds1=64)(v:bc n=ez)(E:n.p=m.p)(y:n.seq=m.seq+1)(o:∀k∈n.drives,k<9)(f:∀e∈n.objs,e∈m.objs)(g:∀k∈m.drives,k∈n.drives)
  (j:∀k d,aH ds1 k=dB d->aH ds k=dB d∨(k∈n.drives/\∃r,d=ba.new r/\2<=r)) (b:(cj m 0 Pow.new ds1 n).1=0->∀k d,aH (cj m 0 Pow.new ds1 n).2.2.2 k=dB d->hY d.l<=d.room):
  cj m 0 Pow.new ds1 n=(7,m,Pow.new,ds1)∨∃ds',cj m 0 Pow.new ds1 n=(0,n,Pow.new,ds')/\Wt z (i+1) p n ds':=by
 obtain⟨w,D⟩:=yX (offs:=0) (ds:=ds1) gI s i0 v y;by_cases q:cj m 0 Pow.new ds1 n=(7,m,Pow.new,ds1)
 .exact .inl q
 have u:=eq_true_of_ne_false λh=>q (w (.inr h));obtain⟨ds',x,F,H⟩:=D (λh=>q (w (.inl h))) u;refine .inr ⟨ds',x,W.lay (R:=λ_=>[]) (N:=λ_=>(hY (aP n):Int)) v E y o (λe G=>W.ent e (f e G)) g (λk d j B h3=>se.2 ⟨j,d,B,h3⟩) (λk d A=>?_) F H (by rw[x]at b;exact b hZ)⟩;rcases j k d A with h|⟨hk,r,rfl,hr⟩
 .exact .inl h
 .refine .inr ⟨hk,hZ,hZ,hr,hZ,λt=>?_⟩;obtain⟨I,a,c⟩:=sH (qK.1 u k t);rw[A]at a;injection a with a
  subst a;have:ik (ba.new r) (ba.new r).l.length (hY (aP n):Int)=ez:=by
   unfold ir at c;rw[qy,Bool.or_eq_true]at c;rcases c.2 with h|h
   .exact h
   .unfold ik at h⊢;rw[decide_eq_true_eq]at h⊢;dsimp only at h;have:(ba.new r).l.length=0:=rfl;omega
  unfold ct;rw[f8 this]
theorem Uo(l:bc m=ez){slot:Int}(n:0<=slot/\slot<64)(b:slot∉m.drives)(o:¬m.seq>=2147483647):bc (uv m (iC (m.drives++[slot])))=ez:=by
 obtain⟨f,g,j,a,e,c,d⟩:=(bU m).1 l;refine(bU _).2 ⟨?_,WK g b,λk i=>?_,a,e,c,d⟩
 .rw[dn]at f⊢;exact⟨by show 1<=m.seq+1/\m.seq+1<=2147483647;omega,f.2⟩
 .rcases qt.1 ((Au _ _).1 i)with h|h
  .exact j k h
  .rw[qp.1 h];omega
theorem Lt{slot:Int}(c:0<=slot/\slot<64)(b:hY ds=64)(o:Option ba)(k:Int):aH (ds.set slot.toNat o) k=if k=slot then o else aH ds k:=by
 unfold aH;by_cases a:0<=k/\k<64
 .rw[f8 a,qW];by_cases e:k=slot
  .subst e;rw[f8 hZ,f8 hZ,f8 ii];rfl
  .rw[f9 ii,f9 e,f8 a]
 .rw[f9 a,f9 ii,f9 a]
theorem Wt.fresh{E:Int}{G:az}{D:aD}(u:tz p E G=0)(j:bm G G.length=(qx G.length).map λi:Nat=>(i:Int))(H:hY G<=9)(v:∀x∈G,2<=x/\x<=512)(r:hY D=64)
  (o:∀s,aH D s=if s∈bm G G.length then dB ⟨(G.getD s.toNat 0).toNat,aP (cx p E G),0,[],eH,eH⟩else et):Wt z 0 p (cx p E G) D:=by
 have b:bc (cx p E G)=ez:=HV ii u;have m:∀k d,aH D k=dB d->k∈(cx p E G).drives/\2<=d.room/\d.l=aP (cx p E G):=λk d a=>by
  rw[o]at a;split at a
  .rename_i h;injection a with a
   subst a;refine⟨h,?_,hZ⟩;rw[j]at h;obtain⟨i,f,rfl⟩:=qo.1 h;have f:=qz.1 f;have:=v _ (qf f);show 2<=(G.getD ((i:Int)).toNat 0).toNat;rw[qj,gT 0 f];omega
  .cases a
 refine⟨b,r,hZ,λk h=>?_,⟨λ_=>cx p E G,hZ,λk d a=>(m k d a).1,λk d a c n g A=>?_,λq B t=>?_⟩,λ_ k d a _=>?_,yD _,λe w=>by cases w⟩
 .rw[show(cx p E G).drives=bm G G.length from rfl,j]at h;obtain⟨i,f,rfl⟩:=qo.1 h;have:=qz.1 f;omega
 .rw[(m k d a).2.2]at n;have:=Dq b n A;exact⟨⟨by rw[this];exact yD _,by rw[this];exact yD _⟩,n,(m k d a).1⟩
 .have t:q<=1:=t;exact⟨b,show(1:Int)=q by omega,qQ (DI p E G ii) i0⟩
 .obtain⟨_,F,y⟩:=m k d a;rw[y,uj];have:=FD b;omega
end
section
variable {p:Pm} {C:Int->aL}
structure ajI (m:ak) (ds ds':aD) (gone:az):Prop where
 len:hY ds'=64
 at_:∀k,k∉gone->aH ds' k=aH ds k
 live:∀k,k∈aR ds' m.drives↔k∈aR ds m.drives/\k∉gone
 sub:∀k∈gone,k∈aR ds m.drives
 nd:gone.Nodup
theorem Dt{o b:Int}{live:az}{i:Nat}(a:i<hY live):(eI m ds o b live).getD i []=(il m ds o b live[i]).map qE:=by rw[gT [] (by unfold eI;rw[qu];exact a)];unfold eI;rw[List.getElem_map];unfold eG;rw[zb,z6,qG]
end
theorem FI(W:cg)(a:az)(x:Int):∀k,x∈rh W a k↔∃i,i<k/\(i:Int)∉a/\x∈W.getD i []
 |0=>by simp[rh]
 |k+1=>by
  rw[rh,qt,FI W a x k];constructor
  .rintro(⟨i,e,b,h3⟩|h)
   .exact⟨i,ii,b,h3⟩
   .by_cases c:(k:Int)∈a
    .rw[f8 c]at h;cases h
    .rw[f9 c]at h;exact⟨k,ii,c,h⟩
  .rintro⟨i,e,b,h3⟩;by_cases d:i=k
   .subst d;exact .inr (by rw[f9 b];exact h3)
   .exact .inl ⟨i,ii,b,h3⟩
theorem aaG(p:Pm)(seed:Int){a b:az}(h:∀x∈a,x∈b):oA p seed a<=oA p seed b:=by
 unfold oA;refine Eo (jX p seed a) (jX p seed b) λr c=>?_;unfold dU at c⊢;split at c
 .rename_i e;rw[f8 e];rcases qt.1 c with c|c
  .exact ze _ c
  .obtain⟨i,d,rfl⟩:=qo.1 c;rw[qD]at d;exact zH _ (qo.2 ⟨i,qD.2 ⟨h i d.1,d.2⟩,hZ⟩)
 .cases c
theorem aaH{p:Pm}{seed:Int}{W V:cg}{g g':az}(h:hY W<=hY V)(d:∀x∈g',x∈g)(c:∀i x,x∈W.getD i []->x∈V.getD i []):nz p seed W g<=nz p seed V g':=by unfold nz;refine aaG p seed λx a=>?_;rw[FI]at a⊢;obtain⟨i,f,e,h3⟩:=a;exact⟨i,ii,λb=>e (d _ b),c i x h3⟩
theorem MU{p:Pm}{seed:Int}{W V:cg}{t:Nat}(c:hY V=hY W)(a:∀i x,x∈W.getD i []->x∈V.getD i [])(h:oE p seed W t=et):oE p seed V t=et:=by
 unfold oE at h⊢;rw[c];rw[wg]at h⊢;intro g e b;have f:(nz p seed W g:Int)=bG p:=by simpa using h g e
 have j:=aaH (p:=p) (seed:=seed) (W:=W) (V:=V) (g:=g) (g':=g) ii (λ_ h=>h) a;have h3:=abB p seed (rh V g V.length);have d:(nz p seed V g:Int)≠bG p:=hU b;apply d;unfold nz at*;omega
section
variable {p:Pm} {C:Int->aL} {e f:ba}
structure Os (i:Nat) (p:Pm) (m:ak) (C:Int->aL) (ds:aD):Prop where
 wt:Wt False i p m ds
 sto:eJ m C ds
 full:Full m C ds
 ne:m.drives≠[]
theorem Os.more(I:Os i p m C ds):Os (i+1) p m C ds:=⟨I.wt.more,I.sto,I.full,I.ne⟩
theorem Os.mono(I:Os i p m C ds){j:Nat}(h:i<=j):Os j p m C ds:=⟨I.wt.mono h,I.sto,I.full,I.ne⟩
structure ClD (m:ak) (d e:ba):Prop where
 lost:e.lost=d.lost
 room:e.room=d.room
 l:e.l=d.l∨e.l=bC m d.l
theorem ClD.refl(d:ba):ClD m d d:=⟨hZ,hZ,.inl hZ⟩
theorem Os.clean(I:Os i p m C ds)(G:mZ (ClD m) ds ds'):Os i p m C ds':=by
 have n:=I.wt.may;obtain⟨M,H⟩:=I.wt.hi;refine⟨⟨n,G.len.trans I.wt.len,I.wt.pe,I.wt.dr,⟨M,H.same n λk e f=>?_⟩,λh=>h.elim,I.wt.seq,I.wt.ent⟩,⟨n,G.len.trans I.sto.len,λk e f c a=>?_,I.sto.ents⟩,⟨λk s=>?_,λx q j o id hid=>?_⟩,I.ne⟩
 .obtain⟨d,b,g⟩:=G.back f;refine⟨d,b,λc a v=>?_⟩;rcases g.l with h|h
  .rw[h]at a;exact .inl a
  .rw[h]at a;rcases qt.1 a with h|h
   .exact .inr h
   .obtain⟨r,_,rfl⟩:=qo.1 h;exact absurd (AY r) v
 .obtain⟨d,b,g⟩:=G.back f;rcases g.l with h|h
  .rw[h]at a;exact I.sto.cells k d b c a
  .rw[h]at a;exact Gu n (I.sto.cells k d b) c a
 .obtain⟨d,b,t,u⟩:=I.full.live k s;obtain⟨e,f,g⟩:=G.at_ k d b;refine⟨e,f,g.lost.trans t,?_⟩;rcases g.l with h|h
  .rw[h];exact u
  .rw[h];exact WY n d.l
 .obtain⟨k,s,d,b,a⟩:=I.full.all x q j o id hid;obtain⟨e,f,g⟩:=G.at_ k d b;refine⟨k,s,e,f,?_⟩;rcases g.l with h|h
  .rw[h];exact a
  .rw[h];exact zH _ (qo.2 ⟨_,nA n (I.sto.cells k d b) a (lZ (I.sto.sX q o (I.sto.Do hid)) (iz _ _ _)) (I.sto.counts q o (I.sto.Do hid)),hZ⟩)
theorem Os.put(I:Os i p m C ds){name:ByteArray}{b:aL}(o:name∈rv)(n:(hY b:Int)<=3*(p.1*p.2.2)+1)(a:∀k d,aH (di m 0 Pow.new ds name b).2.2.2 k=dB d->hY d.l<=d.room):∃e f j ds',di m 0 Pow.new ds name b=(e,f,Pow.new,ds')/\Os (i+1) p f j ds':=by
 obtain⟨e,f,ds',c,g⟩:=I.wt.put o n a;rcases Uh (offs:=0) (name:=name) (b:=b) gI I.sto with⟨⟨e',_,h⟩,_⟩|⟨hr,t,ds2,ht,h,S,hat⟩
 .rw[c]at h;injection h with _ h
  injection h with h1 h
  injection h with _ h2
  subst h1 h2;exact⟨e,_,C,_,c,g,I.sto,I.full,I.ne⟩
 .rw[c]at h;injection h with _ h
  injection h with h1 h
  injection h with _ h2
  subst h1 h2;exact⟨e,_,_,_,c,g,S,I.full.put I.sto hr ht S hat,I.ne⟩
theorem Full.grow(F:Full m C ds)(S:eJ m C ds){ds1:aD}(w:bc n=ez)(u:n.p=m.p)(v:n.extra=m.extra)(l:∀x∈n.objs,x∈m.objs)(a:∀k∈m.drives,k∈n.drives)(b:∀k∈m.drives,aH ds1 k=aH ds k)(f:∀k∈n.drives,∃d,aH ds1 k=dB d/\d.lost=eH)
  (o:∀k,aH ds' k=(aH ds1 k).map λd=>if k∈Qw.aR ds1 n.drives then dD (aP n) (ct m d (aP n).length)else d):Full n C ds':=by
 refine⟨λk g=>?_,λe y i t id hid=>?_⟩
 .obtain⟨d,h,r⟩:=f k g;refine⟨_,by rw[o,h,qS,f8 (se.2 ⟨g,d,h,r⟩)],by rw[(nw _ _).1,(sY _ _ _).1];exact r,?_⟩;rw[xZ];exact ML w λc s=>s
 .rw[u,v]at hid;have j:=l e y;obtain⟨k,g,d,q,s⟩:=F.all e j i t id hid;obtain⟨A,h,r⟩:=f k (a k g);rw[<-b k g]at q;rw[q]at h;injection h with h
  subst h;refine⟨k,a k g,_,by rw[o,q,qS,f8 (se.2 ⟨a k g,d,q,r⟩)],?_⟩;have z:kw n e.object i (cv e.object i (e.tries.getD i 0)) (fH n C e.object i) id=kw m e.object i (cv e.object i (e.tries.getD i 0)) (fH m C e.object i) id:=by unfold kw;rw[Dm u hZ,u]
  rw[xZ,z];exact ze _ (QE S.may (S.cells k d (by rw[<-b k g];exact q)) s (lZ (S.sX j t (S.Do hid)) (iz _ _ _)) (S.counts j t (S.Do hid)))
theorem Os.com(I:Os i p m C ds){ds1:aD}(t:eJ m C ds1)(j:bc n=ez)(q:n.p=m.p)(s:n.seq=m.seq+1)(v:m.next<=n.next)(o:n.extra=m.extra)(g:∀k∈n.drives,k<9)(a:∀x∈n.objs,x∈m.objs)(b:∀k∈m.drives,k∈n.drives)
  (c:∀k∈m.drives,aH ds1 k=aH ds k) (e:∀k∈n.drives,∃d,aH ds1 k=dB d/\d.lost=eH) (u:∀k d,aH ds1 k=dB d->aH ds k=dB d∨(k∈n.drives/\∃r,d=ba.new r/\2<=r)) (f:(cj m 0 Pow.new ds1 n).1=0->∀k d,aH (cj m 0 Pow.new ds1 n).2.2.2 k=dB d->hY d.l<=d.room):
  cj m 0 Pow.new ds1 n=(7,m,Pow.new,ds1)∨∃ds',cj m 0 Pow.new ds1 n=(0,n,Pow.new,ds')/\Os (i+1) p n C ds':=by
 rcases I.wt.com t.len j q s g a b u f with h|⟨ds',h,W'⟩
 .exact .inl h
 .rcases Wz (offs:=0) gI t i0 j s q v a with⟨_,h2⟩|⟨_,ds2,h2,S',hat⟩
  .rw[h]at h2;injection h2 with h2
   exact absurd h2 i0
  .rw[h]at h2;injection h2 with _ h2
   injection h2 with _ h2
   injection h2 with _ h2
   subst h2;refine .inr ⟨ds',h,W',S',I.full.grow I.sto j q o a b c e hat,λw=>?_⟩;obtain⟨k,y⟩:=yq _ I.ne;have:=b k y;rw[w]at this;cases this
theorem Os.del(I:Os i p m C ds)(name:ByteArray)(c:∀k d,aH (cQ m 0 Pow.new ds name).2.2.2 k=dB d->hY d.l<=d.room):∃e f ds',cQ m 0 Pow.new ds name=(e,f,Pow.new,ds')/\Os (i+1) p f C ds':=by
 unfold cQ at c⊢;rw[f9 i0]at c⊢;split
 .exact⟨5,m,ds,hZ,I.more⟩
 .rename_i o;rw[f9 o]at c;split
  .exact⟨7,m,ds,hZ,I.more⟩
  .rename_i q;rw[f9 q]at c;rcases I.com (n:=If m (m.objs.findIdx (gu name))) I.sto (QN I.wt.may ii _) rfl rfl (yD _) rfl I.wt.dr (λx j=>Uk j) (λ_ h=>h) (λ_ _=>rfl) (λk g=>by
    obtain⟨d,a,b,_⟩:=I.full.live k g;exact⟨d,a,b⟩) (λk d h=>.inl h) (λ_=>c)with h|⟨ds',h,I'⟩
   .exact⟨7,m,ds,h,I.more⟩
   .exact⟨0,_,ds',h,I'⟩
theorem Os.add(I:Os i p m C ds){slot:Int}(F:0<=slot/\slot<9){cells:Int}(v:2<=cells)(f:∀k d,aH (iv m 0 Pow.new ds slot cells).2.2.2 k=dB d->hY d.l<=d.room):∃e A ds',iv m 0 Pow.new ds slot cells=(e,A,Pow.new,ds')/\Os (i+1) p A C ds':=by
 unfold iv at f⊢;rw[f9 i0]at f⊢;split
 .exact⟨1,m,ds,hZ,I.more⟩
 rename_i D;rw[f9 D]at f;split
 .exact⟨4,m,ds,hZ,I.more⟩
 rename_i r;rw[f9 r]at f;split
 .exact⟨7,m,ds,hZ,I.more⟩
 rename_i z;rw[f9 z]at f;have q:=Lt (ds:=ds) (slot:=slot) ii I.wt.len;dsimp only at f⊢;obtain⟨M,H⟩:=I.wt.hi;have t:aH ds slot=et:=by
  cases h:aH ds slot with
  |none=>rfl
  |some d=>exact absurd (H.at_ slot d h) r
 have y:∀k∈m.drives,k≠slot:=λk o e=>r (by rw[<-e];exact o);have j:∀k,k∈iC (m.drives++[slot])↔k∈m.drives∨k=slot:=λk=>by rw[Au,qt,qp]
 obtain⟨R,w⟩:=x6 (cj m 0 Pow.new (ds.set slot.toNat (dB (ba.new cells.toNat))) (uv m (iC (m.drives++[slot]))))
 have s:∀k∈m.drives,aH (ds.set slot.toNat (dB (ba.new cells.toNat))) k=aH ds k:=λk o=>by rw[q,f9 (y k o)]
 have u:=I.com (ds1:=ds.set slot.toNat (dB (ba.new cells.toNat))) (n:=uv m (iC (m.drives++[slot]))) ⟨I.wt.may,by simp[I.wt.len],λk d g c v=>by
  rw[q]at g;split at g
  .injection g with g;subst g;cases v
  .exact I.sto.cells k d g c v,I.sto.ents⟩ (Uo I.wt.may ii r z) hZ hZ (yD _) hZ (λk o=>by
  rcases(j k).1 o with h|h
  .exact I.wt.dr k h
  .omega) (λx E=>E) (λk o=>(j k).2 (.inl o)) s (λk o=>by
  rcases(j k).1 o with h|h
  .rw[s k h];obtain⟨d,a,b,_⟩:=I.full.live k h;exact⟨d,a,b⟩
  .exact⟨_,by rw[q,f8 h],hZ⟩) (λk d g=>by
  rw[q]at g;split at g
  .rename_i o;injection g with g
   exact .inr ⟨(j k).2 (.inr o),_,g.symm,ii⟩
  .exact .inl g) (by rw[<-w];exactλh0 k d g=>f k d (by rw[<-w,f9 ii];exact g))
 rw[<-w]at u⊢;rcases u with h|⟨ds',h,I'⟩
 .rw[h]
  try dsimp only
  rw[f8 hZ,yz];have B:∀k,aH (ds.set slot.toNat et) k=aH ds k:=λk=>by
   rw[q];split
   .rename_i o;rw[o,t]
   .rfl
  exact⟨7,m,_,hZ,(I.clean (ds':=ds.set slot.toNat et) ⟨i6,λk d g=>⟨d,by rw[B];exact g,.refl d⟩,λk h=>by rw[B];exact h⟩).more⟩
 .rw[h]
  try dsimp only
  rw[f9 i0];exact⟨0,_,ds',hZ,I'⟩
theorem Os.opened(I:Os i p m C ds)(E:i<=9)(w:∀k d,aH ds k=dB d->hY d.l<=d.room):ja ds=dB m/\(∀d,dB d∈ds->hY (gh d.l)<20)/\∃D,opens m m.drives Pow.new ds=(0,Pow.new,D)/\gj (mT m) D=D/\Os i p m C D:=by
 have s:=I.wt.may;obtain⟨M,H⟩:=I.wt.hi;have c:=I.wt.len;have r:m.seq<=10:=by have:=I.wt.seq;omega
 obtain⟨D,y,z,t⟩:=Ke gI (m:=m) (l:=m.drives) (mq s) c;have G:mZ (ClD m) ds D:=by
  refine⟨z.trans c.symm,λk d a=>?_,λk a=>by rw[t,a];split<;>rfl⟩;have e:=H.at_ k d a;refine⟨sI m d,by rw[t,f8 e,a];rfl,?_⟩;obtain⟨u,b,g,q⟩:=I.full.live k e;rw[a]at b;injection b with b
  subst b;obtain⟨x,B⟩:=agd (m:=m) g (qQ (aaw s q) (w k d a));exact⟨x.trans g.symm,by unfold sI;split<;>rfl,.inr B⟩
 refine⟨?_,λd a=>?_,D,y,?_,I.clean G⟩
 .obtain⟨k,e⟩:=yq _ I.ne;obtain⟨d,a,g,q⟩:=I.full.live k e;refine aak (C:=C) s (λu b=>?_) (at_mem a) g q;obtain⟨j,n⟩:=aav c b;exact I.sto.cells j u n
 .obtain⟨k,e⟩:=aav c a;exact adl H r e
 .refine zt λj=>?_;by_cases n:j<64
  .rw[px _ _ _ n];have o:D[j]?=dB D[j]:=qc ii;have A:D.getD j et=D[j]:=by rw[qd,o];rfl
   rw[o,A];split
   .rfl
   .rename_i v;have f:((j:Nat):Int)∉m.drives:=by unfold mT at v;simpa using v
    have a:aH D (j:Int)=et:=by
     rw[t,f9 f];cases h:aH ds (j:Int)with
     |none=>rfl
     |some d=>exact absurd (H.at_ _ d h) f
    unfold aH at a;rw[f8 ii,qj,o]at a;have a:D[j]=et:=a;rw[a]
  .rw[qJ (by rw[AX];omega),qJ ii]
end
section
variable {C:Int->aL}
theorem adu(e:bc m=ez){l l':bH}(d:∀c∈l',dN m C c)(h:∀c∈l,c∈l'){r:cU}(f:r∈dQ m l):r∈dQ m l':=by obtain⟨a,b,c⟩:=lh f;exact nA e d (h _ a) b c
theorem MV(i:bc m=ez){l:bH}(j:∀c∈l,dN m C c){r:cU}:r∈dQ m (bC m l)↔r∈dQ m l:=by
 constructor
 .intro f;obtain⟨a,b,c⟩:=lh f;rcases qt.1 a with h|h
  .rw[oq h]at b;cases b
  .obtain⟨k,d,e⟩:=qo.1 h;obtain⟨_,g,_⟩:=lh d;rw[e,b]at g;injection g with g
   rw[g];exact d
 .intro f;obtain⟨a,b,c⟩:=lh f;exact nA i (Gu i j) (zH _ (qo.2 ⟨r,f,hZ⟩)) b c
theorem Xj(r:cU):nI r r=ez:=by rw[me];exact⟨hZ,hZ,hZ⟩
theorem Kn(l:bH):(dQ m l).Nodup:=(SL m l).imp λh e=>by subst e;rw[Xj]at h;cases h
theorem agi{l l':bH}(h:∀r∈dQ m l,r∈dQ m l'):hY (dQ m l)<=hY (dQ m l'):=by
 letI:DecidableEq cU:=λa b=>Classical.propDecidable _
 exact nB (Kn l) h
theorem nE(b:bc m=ez){l:bH}:fx m l=ez↔∀c∈aP m,c∈l:=by unfold fx;rw[b,zS,qK];exact⟨λh c a=>hU (h c a),λh c a=>g0 (h c a)⟩
theorem Ir(l:bH):hY (bC m l)=hY (aP m)+hY (dQ m l):=by unfold bC kv;rw[qw,qu]
structure DK (m:ak) (d d':ba):Prop where
 lost:d'.lost=d.lost
 room:d'.room=d.room
 recs:∀r∈dQ m d.l,r∈dQ m d'.l
 whole:fx m d.l=ez->fx m d'.l=ez
theorem DK.refl(d:ba):DK m d d:=⟨hZ,hZ,λ_ h=>h,λh=>h⟩
theorem DK.trans{a b c:ba}(d:DK m a b)(e:DK m b c):DK m a c:=⟨e.lost.trans d.lost,e.room.trans d.room,λr h=>e.recs r (d.recs r h),λh=>e.whole (d.whole h)⟩
structure ju (m:ak) (ds ds':aD):Prop where
 len:hY ds'=hY ds
 at_:∀k d,aH ds k=dB d->∃d',aH ds' k=dB d'/\DK m d d'
 no:∀k,aH ds k=et->aH ds' k=et
theorem ju.refl(ds:aD):ju m ds ds:=⟨hZ,λ_ d h=>⟨d,h,.refl d⟩,λ_ h=>h⟩
theorem ju.trans{a b c:aD}(e:ju m a b)(f:ju m b c):ju m a c:=⟨f.len.trans e.len,λk d o=>by
 obtain⟨l,n,i⟩:=e.at_ k d o;obtain⟨p,g,j⟩:=f.at_ k l n;exact⟨p,g,i.trans j⟩,λk h=>f.no k (e.no k h)⟩
theorem ju.set{k:Int}{d e:ba}(c:hY ds=64)(f:aH ds k=dB d)(h:DK m d e):ju m ds (cu ds k e):=⟨oT _ _ _,λs x a=>by
 rw[ib c f];split
 .rename_i b;subst b;rw[f]at a;injection a with a;subst a
  exact⟨_,hZ,h⟩
 .exact⟨x,a,.refl x⟩,λs b=>by
 rw[ib c f];split
 .rename_i h;subst h;rw[f]at b;cases b
 .exact b⟩
theorem ju.live{ds':aD}(K:ju m ds ds')(l:az):aR ds' l=aR ds l:=by
 unfold aR;refine List.filter_congr λx _=>?_;unfold isLive;cases hd:aH ds x with
 |none=>rw[K.no x hd]
 |some d=>
  obtain⟨a,e,k⟩:=K.at_ x d hd;rw[e];simp only[k.lost]
theorem ju.syms{ds':aD}(K:ju m ds ds'){o b k:Int}{id:Int}(h:id∈(il m ds o b k).map qE):id∈(il m ds' o b k).map qE:=by obtain⟨x,f,rfl⟩:=qo.1 h;obtain⟨d,r,j,c,a,g,rfl⟩:=Dn f;obtain⟨l,e,i⟩:=K.at_ k d j;refine qo.2 ⟨(r.id,r.data),?_,hZ⟩;unfold il;rw[e];exact qo.2 ⟨r,qD.2 ⟨i.recs r c,by rw[a,g];simp⟩,hZ⟩
theorem Up(a:bc m=ez){d:ba}(b:∀c∈d.l,dN m C c):DK m d {d with l:=bC m d.l,wait:=0,laid:=[],has:=eH}:=
 ⟨hZ,hZ,λr h=>(MV a b).2 h,λ_=>(nE a).2 λc h=>ze _ h⟩
structure Tidy (m:ak) (d:ba):Prop where
 whole:fx m d.l=ez
 keep:hY (bC m d.l)<=hY d.l
 room:hY d.l<=d.room
theorem MW(a:bc m=ez){d:ba}(b:∀c∈d.l,dN m C c)(e:hY (bC m d.l)<=d.room):Tidy m {d with l:=bC m d.l,wait:=0,laid:=[],has:=eH}:=
 ⟨(nE a).2 λc h=>ze _ h,by
  show(bC m (bC m d.l)).length<=hY (bC m d.l);rw[Ir,Ir];exact Nat.add_le_add_left (agi λr h=>(MV a b).1 h) _,e⟩
theorem ox{k:Int}{w:Pow}:∀{live:az} {w:Pow} {ds:aD},hY ds=64->k∉live->aH (cL m live w ds).2.2 k=aH ds k
 |[],_,_,_,_=>rfl
 |j::live,w,ds,h64,hk=>by
  have b:k≠j:=λe=>hk (by rw[e];exact qF);have a:k∉live:=λh=>hk (qA _ h);unfold cL;cases hd:aH ds j with
  |none=>exact ox (w:=w) h64 a
  |some d=>
   try dsimp only
   split
   .exact ox (w:=w) h64 a
   .have e:aH (cu ds j (d.rewrite w (bC m d.l)).2.2) k=aH ds k:=by rw[ib h64 hd,f9 b]
    split
    .rw[ox (w:=w) (by rw[oT];exact h64) a,e]
    .exact e
theorem Du:∀{live:az} {ds:aD},live.Nodup->eJ m C ds->(∀k∈live,∃d,aH ds k=dB d/\d.lost=eH)->(∀k d,aH ds k=dB d->hY d.l<=d.room/\d.wait=0)->
  (cL m live Pow.new ds).2.1=Pow.new/\((cL m live Pow.new ds).1=0∨(cL m live Pow.new ds).1=7)/\eJ m C (cL m live Pow.new ds).2.2/\ju m ds (cL m live Pow.new ds).2.2/\
  (∀k d,aH (cL m live Pow.new ds).2.2 k=dB d->hY d.l<=d.room/\d.wait=0)/\
  ((∀k d,aH ds k=dB d->k∈live->hY (bC m d.l)<=d.room)->(cL m live Pow.new ds).1=0)/\
  ((cL m live Pow.new ds).1=0->∀k∈live,∀d,aH (cL m live Pow.new ds).2.2 k=dB d->Tidy m d)
 |[],ds,_,S,_,hw=>⟨hZ,.inl hZ,S,.refl _,hw,λ_=>rfl,λ_ k H=>by cases H⟩
 |k::live,ds,i,S,hlv,hw=>by
  obtain⟨g,i⟩:=ya.1 i;obtain⟨d,o,G⟩:=hlv k qF;have r:=S.cells k d o;have p:=λj f=>hlv j (qA _ f);unfold cL;rw[o]
  try dsimp only
  by_cases e:d.l=bC m d.l
  .rw[f8 e];obtain⟨y,z,a3,a4,a5,v,B⟩:=Du (live:=live) i S p hw;refine⟨y,z,a3,a4,a5,λh=>v λj x a f=>h j x a (qA _ f),λh0 j f x a=>?_⟩;rcases qT.1 f with rfl|f
   .rw[ox (w:=Pow.new) S.len g,o]at a;injection a with a
    subst a;exact⟨(nE S.may).2 λc r=>by rw[e];exact ze _ r,by rw[<-e];exact qm _,(hw j d o).1⟩
   .exact B h0 j f x a
  .rw[f9 e];by_cases u:hY (bC m d.l)<=d.room
   .have E:=xW gI (rf m d.l) G u;rw[E]
    try dsimp only
    rw[f8 rfl];have A:=Up S.may r;have F:eJ m C (cu ds k {d with l:=bC m d.l,wait:=0,laid:=[],has:=eH}):=S.aif o (Gu S.may r);have n:=λs=>ib (d:={d with l:=bC m d.l,wait:=0,laid:=[],has:=eH}) S.len o s;have K1:ju m ds (cu ds k {d with l:=bC m d.l,wait:=0,laid:=[],has:=eH}):=.set S.len o A;obtain⟨y,z,a3,a4,a5,v,B⟩:=Du (live:=live) i F (λj f=>by
     obtain⟨x,a,D⟩:=p j f;have q:j≠k:=λh=>g (by rw[<-h];exact f);exact⟨x,by rw[n,f9 q];exact a,D⟩) (λj x a=>by
     rw[n]at a;split at a
     .injection a with a;subst a;exact⟨u,hZ⟩
     .exact hw j x a)
    refine⟨y,z,a3,K1.trans a4,a5,λh=>v λj x a f=>?_,λh0 j f x a=>?_⟩
    .have q:j≠k:=λh=>g (by rw[<-h];exact f);rw[n,f9 q]at a;exact h j x a (qA _ f)
    .rcases qT.1 f with rfl|f
     .rw[ox (w:=Pow.new) F.len g,n,f8 rfl]at a;injection a with a
      subst a;exact MW S.may r u
     .exact B h0 j f x a
   .have E:d.rewrite Pow.new (bC m d.l)=(7,Pow.new,d):=by unfold ba.rewrite;have t:(bC m d.l).all (λb=>decide (hY b=64))=ez:=qK.2 λc h=>g0 (rf m d.l c h);rw[t,f9 i0,f9 (by rw[G];decide),f8 ii]
    rw[E]
    try dsimp only
    rw[f9 (show¬(7:Int)=0 by decide),Zd o];exact⟨hZ,.inr hZ,S,.refl _,hw,λh=>absurd (h k d o qF) u,λh=>absurd h (show¬(7:Int)=0 by decide)⟩
structure Rl (m:ak) (C:Int->aL) (e:Qw.cb) (i:Nat) (x:jC):Prop where
 he:e∈m.objs
 hi:i<e.tries.length
 o:x.o=e.object
 b:x.b=i
 seed:x.seed=cv e.object i (e.tries.getD i 0)
 M:x.M=dG m.p x.seed (fH m C e.object i)
theorem Rl.Ki{e:Qw.cb}{i:Nat}{x:jC}(X:Rl m C e i x)(id:Nat):x.Ki m id=kw m e.object i (cv e.object i (e.tries.getD i 0)) (fH m C e.object i) id:=by unfold jC.Ki kw tv;rw[X.M,X.o,X.b,X.seed]
theorem aaI(S:eJ m C ds){e:Qw.cb}(b:e∈m.objs){i:Nat}(d:i<e.tries.length){id:Nat}(hid:id<=65535):dN m C (cF (kw m e.object i (cv e.object i (e.tries.getD i 0)) (fH m C e.object i) id)):=by
 have c:=S.sX b d hid;have a:=lZ c (iz _ _ _);refine⟨λr h=>?_,λr h _=>?_,λg h=>?_⟩
 .rw[a]at h;injection h with h;subst h
  exact S.old b
 .rw[a]at h;injection h with h;subst h
  rfl
 .rw[Dl c]at h;cases h
theorem aaJ{W:cg}:fk W<=hY W.flatten:=by
 have h:=nB (l:=(qx (fk W)).map λi:Nat=>(i:Int)) (m:=W.flatten) (by
  rw[List.Nodup,yl];exact yO.imp λh e=>ii) λx c=>by
   obtain⟨j,b,rfl⟩:=qo.1 c;have:=FF (qz.1 b);unfold mB at this;rw[z7]at this;obtain⟨l,a,d⟩:=this;exact vI.2 ⟨l,a,hU d⟩
 simpa using h
theorem adv{W:cg}{c:Nat}(h:∀l∈W,hY l<=c):hY W.flatten<=hY W*c:=by
 induction W with
 |nil=>simp
 |cons l W ih=>
  rw[List.flatten_cons,qw,List.length_cons,Nat.succ_mul];have b:=h l qF;have d:=ih λz a=>h z (qA _ a);omega
theorem aaK{live:az}{s:Int}(h:s∈live):∃k:Nat,gW live s=k/\∃a:k<hY live,live[k]=s:=by
 unfold gW;cases hx:live.idxOf? s with
 |none=>
  unfold List.idxOf? at hx;rw[List.findIdx?_eq_none_iff]at hx;have:=hx s h;simp at this
 |some k=>
  unfold List.idxOf? at hx;obtain⟨a,b,_⟩:=List.findIdx?_eq_some_iff_getElem.1 hx;exact⟨k,hZ,a,j9⟩
def MX(m:ak)(live:az)(ds:aD)(x:jC):Prop:=∀k (a:k<hY live),∀id∈x.W.getD k [],id∈(il m ds x.o x.b live[k]).map qE
theorem MX.keep{live:az}{ds':aD}{x:jC}(h:MX m live ds x)(K:ju m ds ds'):MX m live ds' x:=λk a id hid=>K.syms (h k a id hid)
theorem Tn(e:bc m=ez){d:ba}{c:aL}{g:cU}(k:∀z∈d.l,dN m C z)(p:dN m C c)(o:dJ c=dB g)(h:Tidy m d)(f:hY d.l+1<=d.room)(n:Nat):Tidy m {d with l:=d.l++[c],wait:=n,laid:=[],has:=eH}:=by
 refine⟨(nE e).2 λz s=>ze _ ((nE e).1 h.whole z s),?_,i5⟩;show(bC m (d.l++[c])).length<=hY (d.l++[c]);have i:=h.keep;rw[Ir]at i⊢;have j:hY (dQ m (d.l++[c]))<=hY (dQ m d.l++[g]):=by
  letI:DecidableEq cU:=λa b=>Classical.propDecidable _
  refine nB (Kn _) λr f=>?_;obtain⟨a,b,q⟩:=lh f;rcases qt.1 a with a|a
  .exact ze _ (nA e k a b q)
  .rw[qp.1 a,o]at b;injection b with b
   exact zH _ (by rw[b];simp)
 simp at j⊢;omega
theorem aaL(b:bc m=ez){d:ba}{n:Int}(a:∀c∈d.l,dN m C c)(h:Tidy m d):Tidy m (ct m d n):=by
 unfold ct;split
 .exact h
 .exact MW b a (qQ h.keep h.room)
theorem agj(b:bc m=ez){d:ba}{n:Int}(a:∀c∈d.l,dN m C c):DK m d (ct m d n):=by
 unfold ct;split
 .exact .refl d
 .exact Up b a
structure ry (m:ak) (C:Int->aL) (live:az) (ds:aD) (got:az):Prop where
 sto:eJ m C ds
 lv:∀k∈live,∃d,aH ds k=dB d/\d.lost=eH
 wt:∀k d,aH ds k=dB d->d.wait=0∨k∈got
 tidy:∀k∈live,∀d,aH ds k=dB d->Tidy m d
 rm:∀k d,aH ds k=dB d->hY d.l<=d.room/\d.room<=512
theorem BE{live set order:az}{c:aL}{id:Nat}{w:Pow}:∀l:List Nat,(gm m live set order c id w ds l).1=(7,w,ds)∨
  ∃i∈l,∃d,aH ds (fS order ((id:Int)+i))=dB d/\ir m d 1=ez/\gm m live set order c id w ds l=(jr m c w ds (fS order ((id:Int)+i)) d,gW live (fS order ((id:Int)+i)),fS order ((id:Int)+i))
 |[]=>.inl hZ
 |i::l=>by
  unfold gm
  try dsimp only
  have step:∀{P:Prop},(gm m live set order c id w ds l).1=(7,w,ds)∨(∃i∈l,∃d,aH ds (fS order ((id:Int)+i))=dB d/\ir m d 1=ez/\gm m live set order c id w ds l=(jr m c w ds (fS order ((id:Int)+i)) d,gW live (fS order ((id:Int)+i)),fS order ((id:Int)+i)))->
   (gm m live set order c id w ds l).1=(7,w,ds)∨(∃j∈i::l,∃d,aH ds (fS order ((id:Int)+j))=dB d/\ir m d 1=ez/\gm m live set order c id w ds l=(jr m c w ds (fS order ((id:Int)+j)) d,gW live (fS order ((id:Int)+j)),fS order ((id:Int)+j))):=λ{P} h=>by
    rcases h with h|⟨j,hj,r⟩
    .exact .inl h
    .exact .inr ⟨j,qA _ hj,r⟩
  cases hd:aH ds (fS order ((id:Int)+i))with
  |none=>exact step (P:=True) (BE l)
  |some d=>
   try dsimp only
   by_cases a:gW live (fS order ((id:Int)+i))∈set∨ir m d 1=eH
   .rw[f8 a];exact step (P:=True) (BE l)
   .rw[f9 a];exact .inr ⟨i,qF,d,hd,by cases hf:ir m d 1 with|true=>rfl|false=>exact absurd (.inr hf) a,rfl⟩
theorem aaM{live set:az}{e:Qw.cb}{i:Nat}{x:jC}(ah:live.length<=9)(Q:ry m C live ds x.got)(X:Rl m C e i x)(F:nD m live x)(O:MX m live ds x):
  (fa m live set Pow.new ds x).2.1=Pow.new/\((fa m live set Pow.new ds x).1=0∨(fa m live set Pow.new ds x).1=7)/\ju m ds (fa m live set Pow.new ds x).2.2.1/\
  ry m C live (fa m live set Pow.new ds x).2.2.1 (fa m live set Pow.new ds x).2.2.2.got/\Rl m C e i (fa m live set Pow.new ds x).2.2.2/\MX m live (fa m live set Pow.new ds x).2.2.1 (fa m live set Pow.new ds x).2.2.2:=by
 have v:fk x.W<=65535:=by
  have S:=aaJ (W:=x.W);have h2:=adv (W:=x.W) (c:=4160) λl hl=>by have:=F.rl l hl;have:=F.gl;omega
  have h3:=F.wl;have h4:x.W.length*4160<=9*4160:=zF _ ii;omega
 have g:=Q.sto.counts X.he X.hi v;have H:=Q.sto.sX X.he X.hi v;have A:=aaI Q.sto X.he X.hi v;obtain⟨p,t⟩:=x6 (kw m e.object i (cv e.object i (e.tries.getD i 0)) (fH m C e.object i) (fk x.W))
 rw[<-t]at g H A;have J:=lZ H (by rw[t];exact iz _ _ _);have ad:(cF p).length=64:=Hx H;have eP:fa m live set Pow.new ds x=(let r:=gm m live set (dM x.o x.b live) (cF p) (fk x.W) Pow.new ds (qx (dM x.o x.b live).length);(r.1.1,r.1.2.1,r.1.2.2,if r.1.1=0 then x.BC (fk x.W) r.2.1 r.2.2 else x)):=by rw[t,<-X.Ki];rfl
 rw[eP]
 try dsimp only
 obtain⟨o,ho⟩:=x6 (dM x.o x.b live)
 rw[<-ho];rcases BE (m:=m) (ds:=ds) (live:=live) (set:=set) (order:=o) (c:=cF p) (id:=fk x.W) (w:=Pow.new) (qx o.length)with h|⟨j,T,d,hd,hf,h⟩
 .rw[h]
  try dsimp only
  rw[f9 (show¬(7:Int)=0 by decide)];exact⟨hZ,.inr hZ,.refl _,Q,X,O⟩
 obtain⟨s,hs⟩:=x6 (fS o ((fk x.W:Int)+j))
 rw[<-hs]at hd h;have T:=qz.1 T;have G:s∈live:=by rw[hs];exact Dr (by rw[<-ho];exact Lq (by intro h;rw[h]at T;simp at T))
 obtain⟨kk,Y,ab,Z⟩:=aaK G;have U:=Q.sto.cells s d hd;obtain⟨r1,r2,r3⟩:=Dg hf;have ea:jr m (cF p) Pow.new ds s d=(0,Pow.new,cu ds s {ct m d 1 with l:=(ct m d 1).l++[cF p],wait:=(ct m d 1).wait+1,laid:=[],has:=eH}):=by
  unfold jr;rw[JH gI hf]
  try dsimp only
  rw[f9 λh=>h hZ,GR (n:=0) gI r1 ii ad]
  try dsimp only
  rw[rk]
 rw[h,ea]
 try dsimp only
 rw[f8 rfl];obtain⟨y,u⟩:=x6 ({ct m d 1 with l:=(ct m d 1).l++[cF p],wait:=(ct m d 1).wait+1,laid:=[],has:=eH})
 rw[<-u];have D:=Q.sto.may;have E:=Lj D U (N:=1);have R:∀c∈y.l,dN m C c:=λc f=>by
  rw[u]at f;rcases qt.1 f with f|f
  .exact E c f
  .rw[qp.1 f];exact A
 have I:DK m d y:=(agj D U (n:=1)).trans (by
  rw[u];refine⟨hZ,hZ,λr hr=>adu D (l:=(ct m d 1).l) (l':=(ct m d 1).l++[cF p]) (λc f=>by
   rcases qt.1 f with f|f
   .exact E c f
   .rw[qp.1 f];exact A) (λc f=>ze _ f) hr,λhw=>(nE D).2 λc f=>ze _ ((nE D).1 hw c f)⟩)
 have K:ju m ds (cu ds s y):=.set Q.sto.len hd I;have q:=λz=>ib (d:=y) Q.sto.len hd z;have S':eJ m C (cu ds s y):=Q.sto.aif hd R;have L:Tidy m y:=by rw[u];exact Tn D E A J (aaL D U (Q.tidy s G d hd)) ii _
 refine⟨hZ,.inl hZ,K,⟨S',λk B=>?_,λk z a=>?_,λk B z a=>?_,λk z a=>?_⟩,⟨X.he,X.hi,X.o,X.b,X.seed,X.M⟩,λk B id hid=>?_⟩
 .rw[q];split
  .exact⟨y,hZ,by rw[I.lost];obtain⟨z,a,hl⟩:=Q.lv s G;rw[hd]at a;injection a with a;rw[a];exact hl⟩
  .exact Q.lv k B
 .show z.wait=0∨k∈x.got++[s]
  rw[q]at a;split at a
  .rename_i B;rw[B];exact .inr i6
  .rcases Q.wt k z a with h|h
   .exact .inl h
   .exact .inr (ze _ h)
 .rw[q]at a;split at a
  .injection a with a
   rw[<-a];exact L
  .exact Q.tidy k B z a
 .rw[q]at a;split at a
  .injection a with a
   rw[<-a];exact⟨L.room,by rw[I.room];exact(Q.rm s d hd).2⟩
  .exact Q.rm k z a
 .have hid:id∈(x.W.set (gW live s).toNat (x.W.getD (gW live s).toNat []++[(fk x.W:Int)])).getD k []:=hid;rw[Y,qj]at hid;show id∈(il m (cu ds s y) x.o x.b live[k]).map qE;have V:kk<x.W.length:=by rw[F.wl];exact ab
  by_cases P:k=kk
  .subst P;rw[gT [] (by rw[zE];exact V),List.getElem_set_self]at hid;rcases qt.1 hid with S|S
   .exact K.syms (O k B id S)
   .rw[qp.1 S,Z];refine qo.2 ⟨(p.id,p.data),?_,by rw[t];rfl⟩;unfold il;rw[q,f8 rfl];refine qo.2 ⟨p,qD.2 ⟨nA D R (by rw[u];exact zH _ i6) J g,?_⟩,hZ⟩;rw[X.o,X.b,t];show(decide (e.object=e.object)&&decide ((i:Int)=(i:Int)))=ez;simp
  .rw[qd,zG λh=>P h.symm,<-qd]at hid;exact K.syms (O k B id hid)
theorem aaN{p:Pm}(d:bK p=ez){seed:Int}{W:cg}{t:Int}(a:0<=t/\t<=hY W)(c:hY W<=64)(b:¬jI W.length t>4096):iL p seed W t=match oE p seed W t.toNat with|some g=>(g,ez,0)|none=>([],eH,0):=by unfold iL;rw[f8 d,f8 ⟨a.1,a.2,c⟩,f9 b];rfl
theorem Ko{live:az}{t most:Int}{e:Qw.cb}{i:Nat}(k:0<=t/\t<=hY live)(b:hY live<=9)(n:¬jI live.length t>4096)(a:most<=64):∀(f:Nat) (ds:aD) (x:jC),ry m C live ds x.got->Rl m C e i x->nD m live x->MX m live ds x->
  (db m live t most f Pow.new ds x).2.1=Pow.new/\((db m live t most f Pow.new ds x).1=0∨(db m live t most f Pow.new ds x).1=7∨(db m live t most f Pow.new ds x).1=12)/\ju m ds (db m live t most f Pow.new ds x).2.2.1/\
  ry m C live (db m live t most f Pow.new ds x).2.2.1 (db m live t most f Pow.new ds x).2.2.2.got/\Rl m C e i (db m live t most f Pow.new ds x).2.2.2/\nD m live (db m live t most f Pow.new ds x).2.2.2/\MX m live (db m live t most f Pow.new ds x).2.2.1 (db m live t most f Pow.new ds x).2.2.2/\
  ((db m live t most f Pow.new ds x).1=0->oE m.p x.seed (db m live t most f Pow.new ds x).2.2.2.W t.toNat=et)/\
  (oE m.p x.seed x.W t.toNat=et->0<f->db m live t most f Pow.new ds x=(0,Pow.new,ds,x))
 |0,ds,x,Q,X,F,O=>⟨hZ,.inr (.inr hZ),.refl _,Q,X,F,O,λh=>absurd h (show¬(12:Int)=0 by decide),λ_ h=>absurd h i0⟩
 |f+1,ds,x,Q,X,F,O=>by
  have d:=aaN Q.sto.Ic (seed:=x.seed) (W:=x.W) (t:=t) ⟨k.1,by rw[F.wl];exact k.2⟩ (by rw[F.wl];omega) (by rw[F.wl];exact n);unfold db
  try dsimp only
  rw[d];cases hwk:oE m.p x.seed x.W t.toNat with
  |none=>
   try dsimp only
   rw[f9 λh=>h hZ,f8 rfl];exact⟨hZ,.inl hZ,.refl _,Q,X,F,O,λ_=>hwk,λ_ _=>rfl⟩
  |some g=>
   try dsimp only
   rw[f9 λh=>h hZ,f9 i0];by_cases r:(hY x.got:Int)>=most
   .rw[f8 r];exact⟨hZ,.inr (.inr hZ),.refl _,Q,X,F,O,λh=>absurd h (show¬(12:Int)=0 by decide),λh=>j8⟩
   .rw[f9 r];obtain⟨l,o,a3,a4,a5,c⟩:=aaM (set:=g) b Q X F O;have j:=(Im (set:=g) (w:=Pow.new) (ds:=ds) F ii).1;obtain⟨q,s⟩:=x6 (fa m live g Pow.new ds x)
    rw[<-s]at l o a3 a4 a5 c j⊢;by_cases h0:q.1≠0
    .rw[f8 h0];exact⟨l,o.elim (λh=>absurd h h0) λh=>.inr (.inl h),a3,a4,a5,j,c,λh=>absurd h h0,λh=>j8⟩
    .rw[f9 h0,l];obtain⟨u,E,B,A,y,z,D,b8,_⟩:=Ko k b n a f q.2.2.1 q.2.2.2 a4 a5 j c;have v:q.2.2.2.seed=x.seed:=by rw[a5.seed,X.seed]
     rw[v]at b8;exact⟨u,E,a3.trans B,A,y,z,D,b8,λh=>j8⟩
theorem ry.fit{live got:az}(Q:ry m C live ds got):Fit ds live []:=⟨Q.sto.len,λs b=>by
 obtain⟨d,a,c⟩:=Q.lv s b;exact⟨d,a,c,by have:=(Q.tidy s b d a).room;simp;omega⟩⟩
theorem ry.sync{live got:az}(Q:ry m C live ds got)(u:∀s∈got,s∈live)(p:∀s∈live,0<=s/\s<64):
  (eO (cI got) Pow.new ds).1=0/\(eO (cI got) Pow.new ds).2.1=Pow.new/\ju m ds (eO (cI got) Pow.new ds).2.2/\ry m C live (eO (cI got) Pow.new ds).2.2 []/\∀k,(aH (eO (cI got) Pow.new ds).2.2 k).map ba.l=(aH ds k).map ba.l:=by
 obtain⟨x,o,a3⟩:=De gI (cI got) ds Q.fit λs t=>by
  unfold cI at t;exact u s (hU (qD.1 t).2)
 obtain⟨D,y⟩:=x6 ((eO (cI got) Pow.new ds).2.2)
 rw[<-y]at o a3⊢;have g:∀k d,aH ds k=dB d->∃b,aH D k=dB b/\b.l=d.l/\b.room=d.room/\b.lost=d.lost/\(b.wait=0∨b.wait=d.wait/\k∉cI got):=λk d c=>by
  rw[a3,c];refine⟨_,hZ,?_⟩;split
  .exact⟨hZ,hZ,hZ,.inl hZ⟩
  .exact⟨hZ,hZ,hZ,.inr ⟨hZ,ol⟩⟩
 have j:∀k,aH ds k=et->aH D k=et:=λk h=>by rw[a3,h];rfl
 have f:∀k b,aH D k=dB b->∃d,aH ds k=dB d:=λk b h=>by
  cases c:aH ds k with
  |none=>rw[j k c]at h;cases h
  |some d=>exact⟨d,hZ⟩
 refine⟨x,Dd gI _ _,⟨by rw[o.len,Q.sto.len],λk d c=>?_,j⟩,⟨⟨Q.sto.may,o.len,λk b a=>?_,Q.sto.ents⟩,λk q=>?_,λk b a=>?_,λk q b a=>?_,λk b a=>?_⟩,λk=>?_⟩
 .obtain⟨b,e,i,n,h3,_⟩:=g k d c;exact⟨b,e,h3,n,λr v=>by rw[i];exact v,λh=>by rw[i];exact h⟩
 .obtain⟨d,c⟩:=f k b a;obtain⟨z,e,i,_⟩:=g k d c;rw[a]at e;injection e with e;subst e
  rw[i];exact Q.sto.cells k d c
 .obtain⟨d,c,A⟩:=Q.lv k q;obtain⟨b,e,_,_,h3,_⟩:=g k d c;exact⟨b,e,by rw[h3];exact A⟩
 .obtain⟨d,c⟩:=f k b a;obtain⟨z,e,_,_,_,w⟩:=g k d c;rw[a]at e;injection e with e;subst e
  rcases w with h|⟨h,hn⟩
  .exact .inl h
  .rcases Q.wt k d c with h5|h5
   .exact .inl (h.trans h5)
   .exact absurd ((Bw (p k (u k h5))).2 h5) hn
 .obtain⟨d,c⟩:=f k b a;obtain⟨z,e,i,n,_,_⟩:=g k d c;rw[a]at e;injection e with e;subst e
  have:=Q.tidy k q d c;exact⟨by rw[i];exact this.whole,by rw[i];exact this.keep,by rw[i,n];exact this.room⟩
 .obtain⟨d,c⟩:=f k b a;obtain⟨z,e,i,n,_,_⟩:=g k d c;rw[a]at e;injection e with e;subst e
  rw[i,n];exact Q.rm k d c
 .cases c:aH ds k with
  |none=>rw[j k c]
  |some d=>
   obtain⟨b,e,i,_⟩:=g k d c;rw[e];simp[i]
structure Dv (m:ak) (live:az) (ds:aD) (t most:Int):Prop where
 lv:live=aR ds m.drives
 few:hY live<=9
 tt:0<=t/\t<hY live
 c:¬jI live.length t>4096
 mo:0<=most/\most<=64
 slots:∀s∈live,0<=s/\s<64
def kj(m:ak)(live:az)(ds:aD)(t:Int)(e:Qw.cb)(i:Nat):Prop:=oE m.p (cv e.object i (e.tries.getD i 0)) (eI m ds e.object i live) t.toNat=et
theorem sZ(m:ak)(ds:aD)(o b:Int)(live:az):hY (eI m ds o b live)=hY live:=by unfold eI;rw[qu]
theorem kj.keep{live:az}{ds':aD}{t:Int}{e:Qw.cb}{i:Nat}(h:kj m live ds t e i)(K:ju m ds ds'):kj m live ds' t e i:=by
 refine MU (by rw[sZ,sZ]) (λk x a=>?_) h;by_cases b:k<hY live
 .rw[Dt b]at a⊢;exact K.syms a
 .rw[qd,qJ (by rw[sZ];omega)]at a;cases a
theorem aaO{live:az}{t most:Int}{e:Qw.cb}{i:Nat}(Z:Dv m live ds t most)(S:eJ m C ds)(v:e∈m.objs)(q:i<e.tries.length)(u:∀k d,aH ds k=dB d->d.l.length<=512):
  ((fb m live ds e.object e.tries i).1=0∨(fb m live ds e.object e.tries i).1=11)/\
  ((fb m live ds e.object e.tries i).1=0->Rl m C e i (fb m live ds e.object e.tries i).2/\MX m live ds (fb m live ds e.object e.tries i).2/\(fb m live ds e.object e.tries i).2.W=eI m ds e.object i live)/\
  (kj m live ds t e i->(fb m live ds e.object e.tries i).1=0):=by
 have j:=S.jq v q;unfold Qw.jq at j;rw[<-Z.lv]at j;obtain⟨K,H,w,n,B⟩:=S.fm v q;have y:iZ m.p (cv e.object i (e.tries.getD i 0)) (fH m C e.object i).length=0:=B.iZ;unfold fb
 try dsimp only
 rw[j,<-Z.lv];by_cases f:fV m.p (cv e.object i (e.tries.getD i 0)) (mP m ds e.object i)=ez
 .rw[f8 f]
  try dsimp only
  rw[f9 λh=>h hZ,f9 λh=>h y];refine⟨.inl hZ,λ_=>⟨⟨v,q,hZ,hZ,hZ,hZ⟩,λk A id hid=>?_,hZ⟩,λ_=>rfl⟩;dsimp only at hid⊢;rw[Dt A]at hid;exact hid
 .rw[f9 f]
  try dsimp only
  rw[f8 (show¬(9:Int)=0 by decide)];refine⟨.inr hZ,λh=>absurd h (show¬(11:Int)=0 by decide),λr=>absurd ?_ f⟩;unfold kj at r;obtain⟨W,g⟩:=x6 (eI m ds e.object i live)
  rw[<-g]at r;have F:W.length=live.length:=by rw[g];exact sZ _ _ _ _ _
  have s:ints (qx t.toNat)∈AS W.length t.toNat:=qo.2 ⟨_,OQ i6 (λx o=>by have:=qz.1 o;have:=Z.tt;omega) yO,hZ⟩;have D:(nz m.p (cv e.object i (e.tries.getD i 0)) W (ints (qx t.toNat)):Int)=bG m.p:=by have:=wg.1 r _ s;simpa using this
  have a:fV m.p (cv e.object i (e.tries.getD i 0)) (rh W (ints (qx t.toNat)) W.length)=ez:=by unfold fV;rw[S.Ic,zS];exact beq_iff_eq.2 D
  refine MI S.Ic (λx o=>?_) a;obtain⟨k,A,_,b⟩:=(FI W _ x W.length).1 o;have c:k<live.length:=ii
  rw[g,Dt c]at b;obtain⟨z,E,rfl⟩:=qo.1 b;unfold mP eG;exact qo.2 ⟨z,zI.2 ⟨live[k],by rw[<-Z.lv];exact qf c,E⟩,hZ⟩
theorem To{live:az}{t most:Int}{e:Qw.cb}{i:Nat}(Z:Dv m live ds t most)(Q:ry m C live ds [])(P:e∈m.objs)(K:i<e.tries.length):
  (dg m live t most Pow.new ds e i).2.1=Pow.new/\((dg m live t most Pow.new ds e i).1=0∨(dg m live t most Pow.new ds e i).1=7∨(dg m live t most Pow.new ds e i).1=11∨(dg m live t most Pow.new ds e i).1=12)/\ju m ds (dg m live t most Pow.new ds e i).2.2.1/\eJ m C (dg m live t most Pow.new ds e i).2.2.1/\ry m C live (dg m live t most Pow.new ds e i).2.2.1 []/\
  ((dg m live t most Pow.new ds e i).1=0->kj m live (dg m live t most Pow.new ds e i).2.2.1 t e i)/\
  (kj m live ds t e i->dg m live t most Pow.new ds e i=(0,Pow.new,ds,0)):=by
 have a:∀k d,aH ds k=dB d->d.l.length<=512:=λk d R=>by have:=Q.rm k d R;omega
 obtain⟨B,D,z⟩:=aaO Z Q.sto P K a;have u:=λh=>Io (m:=m) (live:=live) (ds:=ds) (o:=e.object) (tries:=e.tries) (i:=i) a (by rw[<-Z.lv]) h;unfold dg
 try dsimp only
 obtain⟨p,J⟩:=x6 (fb m live ds e.object e.tries i)
 rw[<-J]at B D z u⊢;by_cases h0:p.1=0
 rotate_left
 .rw[f8 h0];exact⟨hZ,B.elim (λh=>absurd h h0) λh=>.inr (.inr (.inl h)),.refl _,Q.sto,Q,λh=>absurd h h0,λh=>absurd (z h) h0⟩
 rw[f9 λh=>h h0];obtain⟨X,O,E⟩:=D h0;obtain⟨F,f⟩:=u h0;have M:ry m C live ds p.2.got:=by rw[f];exact Q
 obtain⟨n,I,a3,a4,a5,g,y,w,a9⟩:=Ko (most:=most) ⟨Z.tt.1,by have:=Z.tt.2;omega⟩ Z.few Z.c Z.mo.2 65 ds p.2 M X F O;obtain⟨q,G⟩:=x6 (db m live t most 65 Pow.new ds p.2)
 rw[<-G]at n I a3 a4 a5 g y w a9⊢;rw[f9 ii,n];obtain⟨H,S,v,r,T⟩:=a4.sync (λs L=>g.gi s L) Z.slots;rw[H,f9 λh=>h rfl]
 try dsimp only
 refine⟨S,ii,a3.trans v,r.sto,r,λh=>?_,λh=>?_⟩
 .have h8:=w h;rw[X.seed]at h8;refine MU (V:=eI m (eO (cI q.2.2.2.got) Pow.new q.2.2.1).2.2 e.object i live) (by rw[sZ,g.wl]) (λk x j=>?_) h8;by_cases A:k<live.length
  .rw[Dt A];have:=(y.keep v) k A x j;rw[a5.o,a5.b]at this;exact this
  .rw[qd,qJ (by rw[g.wl];omega)]at j;cases j
 .have N:=a9 (by rw[E,X.seed];exact h) i0;rw[N,f];rfl
theorem Dv.next{live:az}{ds':aD}{t most:Int}(Z:Dv m live ds t most)(K:ju m ds ds'):Dv m live ds' t most:=⟨by rw[K.live];exact Z.lv,Z.few,Z.tt,Z.c,Z.mo,Z.slots⟩
def okE(e:Int):Prop:=e=0∨e=7∨e=11∨e=12
theorem FJ{live:az}{t most:Int}{e:Qw.cb}(q:e∈m.objs):∀(l:List Nat) (ds:aD) (k:Nat),(∀i∈l,i<e.tries.length)->Dv m live ds t most->ry m C live ds []->
  (fJ m live t most e l Pow.new ds k).2.1=Pow.new/\okE (fJ m live t most e l Pow.new ds k).1/\ju m ds (fJ m live t most e l Pow.new ds k).2.2.1/\ry m C live (fJ m live t most e l Pow.new ds k).2.2.1 []/\
  ((fJ m live t most e l Pow.new ds k).1=0->∀i∈l,kj m live (fJ m live t most e l Pow.new ds k).2.2.1 t e i)/\
  ((∀i∈l,kj m live ds t e i)->fJ m live t most e l Pow.new ds k=(0,Pow.new,ds,k))
 |[],ds,k,_,_,Q=>⟨hZ,.inl hZ,.refl _,Q,λ_ i u=>(by cases u),λ_=>rfl⟩
 |i::l,ds,k,hl,Z,Q=>by
  obtain⟨c,n,a3,a4,a5,f,d⟩:=To Z Q q (hl i qF);unfold fJ
  try dsimp only
  obtain⟨b,w⟩:=x6 (dg m live t most Pow.new ds e i)
  rw[<-w]at c n a3 a4 a5 f d⊢;by_cases h0:b.1=0
  rotate_left
  .rw[f8 h0];exact⟨c,n,a3,a5,λh=>absurd h h0,λh=>absurd (by rw[d (h i qF)]) h0⟩
  rw[f9 λh=>h h0,c];obtain⟨y,s,c3,v,x,g⟩:=FJ q l b.2.2.1 (k+b.2.2.2) (λj a=>hl j (qA _ a)) (Z.next a3) a5;refine⟨y,s,a3.trans c3,v,λh j a=>?_,λh=>?_⟩
  .rcases qT.1 a with rfl|a
   .exact(f h0).keep c3
   .exact x h j a
  .have o:=d (h i qF);have p:b.2.2.1=ds:=by rw[o]
   have r:b.2.2.2=0:=by rw[o]
   rw[p,r,wE]at g;rw[p,r,wE];exact g λj a=>h j (qA _ a)
theorem Kp{live:az}{t most:Int}:∀(l:List Qw.cb) (ds:aD) (k:Nat),(∀e∈l,e∈m.objs)->Dv m live ds t most->ry m C live ds []->
  (jt m live t most l Pow.new ds k).2.1=Pow.new/\okE (jt m live t most l Pow.new ds k).1/\ju m ds (jt m live t most l Pow.new ds k).2.2.1/\ry m C live (jt m live t most l Pow.new ds k).2.2.1 []/\
  ((jt m live t most l Pow.new ds k).1=0->∀e∈l,∀i<e.tries.length,kj m live (jt m live t most l Pow.new ds k).2.2.1 t e i)/\
  ((∀e∈l,∀i<e.tries.length,kj m live ds t e i)->jt m live t most l Pow.new ds k=(0,Pow.new,ds,k))
 |[],ds,k,_,_,Q=>⟨hZ,.inl hZ,.refl _,Q,λ_ i a=>t7,λ_=>rfl⟩
 |e::l,ds,k,hl,Z,Q=>by
  obtain⟨d,o,a3,a5,g,f⟩:=FJ (hl e qF) (qx e.tries.length) ds k (λi a=>qz.1 a) Z Q;unfold jt
  try dsimp only
  obtain⟨b,u⟩:=x6 (fJ m live t most e (qx e.tries.length) Pow.new ds k)
  rw[<-u]at d o a3 a5 g f⊢;by_cases h0:b.1=0
  rotate_left
  .rw[f8 h0];exact⟨d,o,a3,a5,λh=>absurd h h0,λh=>absurd (by rw[f λi a=>h e qF i (qz.1 a)]) h0⟩
  rw[f9 λh=>h h0,d];obtain⟨x,q,c3,s,v,n⟩:=Kp l b.2.2.1 b.2.2.2 (λj c=>hl j (qA _ c)) (Z.next a3) a5;refine⟨x,q,a3.trans c3,s,λh j c=>?_,λh=>?_⟩
  .rcases qT.1 c with rfl|c
   .exactλi a=>(g h0 i (qz.2 a)).keep c3
   .exact v h j c
  .have p:=f λi a=>h e qF i (qz.1 a);have r:b.2.2.1=ds:=by rw[p]
   have w:b.2.2.2=k:=by rw[p]
   rw[r,w]at n⊢;exact n λj c=>h j (qA _ c)
theorem Xk{live:az}{t most:Int}(Z:Dv m live ds t most)(S:eJ m C ds)(j:∀k d,aH ds k=dB d->d.l.length<=d.room/\d.room<=512)(r:∀k d,aH ds k=dB d->d.wait=0):
  (dW m 0 Pow.new ds t most).2.2.1=Pow.new/\okE (dW m 0 Pow.new ds t most).2.1/\ju m ds (dW m 0 Pow.new ds t most).2.2.2/\eJ m C (dW m 0 Pow.new ds t most).2.2.2/\
  (∀k d,aH (dW m 0 Pow.new ds t most).2.2.2 k=dB d->d.l.length<=d.room/\d.wait=0)/\
  ((dW m 0 Pow.new ds t most).2.1=0->ry m C live (dW m 0 Pow.new ds t most).2.2.2 []/\∀e∈m.objs,∀i<e.tries.length,kj m live (dW m 0 Pow.new ds t most).2.2.2 t e i)/\
  ((∀k∈live,∀d,aH ds k=dB d->Tidy m d)->(∀e∈m.objs,∀i<e.tries.length,kj m live ds t e i)->(dW m 0 Pow.new ds t most).1=0/\(dW m 0 Pow.new ds t most).2.1=0):=by
 have g:∀k∈live,∃d,aH ds k=dB d/\d.lost=eH:=λk f=>(jF (by rw[<-Z.lv];exact f)).2;have p:live.Nodup:=by rw[Z.lv];exact xY (mq S.may)
 obtain⟨v,y,a3,a4,a5,x,A⟩:=Du p S g λk d a=>⟨(j k d a).1,r k d a⟩
 have M:=Z.tt;have D:=Z.c;have J:=Z.mo;have I:dW m 0 Pow.new ds t most=(let c:=cL m live Pow.new ds;if c.1≠0 then(0,c.1,c.2.1,c.2.2)else(let q:=jt m live t most m.objs c.2.1 c.2.2 0;(q.2.2.2,q.1,q.2.1,q.2.2.1))):=by unfold dW;rw[<-Z.lv,f9 i0,f9 ii,f9 D]
 rw[I]
 try dsimp only
 obtain⟨c,s⟩:=x6 (cL m live Pow.new ds)
 rw[<-s]at v y a3 a4 a5 x A⊢;have b:∀k d,aH c.2.2 k=dB d->d.l.length<=d.room/\d.room<=512:=λk d a=>by
  refine⟨(a5 k d a).1,?_⟩;cases h:aH ds k with
  |none=>rw[a4.no k h]at a;cases a
  |some d0=>
   obtain⟨z,e,u⟩:=a4.at_ k d0 h;rw[a]at e;injection e with e;rw[e,u.room];exact(j k d0 h).2
 by_cases h0:c.1=0
 rotate_left
 .rw[f8 h0];refine⟨v,y.elim (λh=>absurd h h0) λh=>.inr (.inl h),a4,a3,a5,λh=>absurd h h0,λh _=>absurd (x λk d a f=>?_) h0⟩;have:=h k f d a;exact qQ this.keep this.room
 rw[f9 λh=>h h0,v];have Q:ry m C live c.2.2 []:=⟨a3,λk f=>by
  obtain⟨d,a,L⟩:=g k f;obtain⟨z,e,u⟩:=a4.at_ k d a;exact⟨z,e,by rw[u.lost];exact L⟩,λk d a=>.inl (a5 k d a).2,λk f d a=>A h0 k f d a,b⟩
 obtain⟨B,K,H,o,E,F⟩:=Kp m.objs c.2.2 0 (λe n=>n) (Z.next a4) Q;refine⟨B,K,a4.trans H,o.sto,λk d a=>⟨(o.rm k d a).1,?_⟩,λh=>⟨o,λe n i w=>E h e n i w⟩,λ_ h=>?_⟩
 .rcases o.wt k d a with h|h
  .exact h
  .cases h
 .have G:=F λe n i w=>(h e n i w).keep a4;rw[G];exact⟨hZ,hZ⟩
end
section
variable {p:Pm} {C:Int->aL} {e:ba}
def Qt(d:ba):Prop:=d.wait=0/\d.laid=[]/\d.has=eH
structure Ab (i:Nat) (p:Pm) (m:ak) (C:Int->aL) (ds:aD):Prop where
 os:Os i p m C ds
 q:∀k d,aH ds k=dB d->Qt d
theorem Ab.more(I:Ab i p m C ds):Ab (i+1) p m C ds:=⟨I.os.more,I.q⟩
theorem Uq{a:bH}(h:Qt d):Qt (dD a d):=by
 unfold dD;split
 .exact h
 .exact⟨hZ,hZ,hZ⟩
theorem Ur{N:Int}(h:Qt d):Qt (ct m d N):=by
 unfold ct;split
 .exact h
 .exact⟨hZ,hZ,hZ⟩
theorem ait(S:eJ m C ds)(a:∀k d,aH ds k=dB d->Qt d)(name:ByteArray)(b:aL):∀k d,aH (di m 0 Pow.new ds name b).2.2.2 k=dB d->Qt d:=by
 rcases Uh (offs:=0) (name:=name) (b:=b) gI S with⟨⟨_,_,h⟩,_⟩|⟨_,t,ds2,_,h,_,hat⟩
 .rw[h];exact a
 .rw[h];intro k d e;obtain⟨c,h0,rfl⟩:=sg hat e;unfold uh;split
  .exact Uq (Ur (a k c h0))
  .exact a k c h0
theorem aaP(a:hY ds=64)(q:bc n=ez)(r:n.seq=m.seq+1)(c:∀k d,aH ds k=dB d->Qt d):(cj m 0 Pow.new ds n).2.2.2.length=64/\∀k d,aH (cj m 0 Pow.new ds n).2.2.2 k=dB d->Qt d:=by
 obtain⟨g,l⟩:=yX (offs:=0) (ds:=ds) gI a i0 q r;by_cases b:cj m 0 Pow.new ds n=(7,m,Pow.new,ds)
 .rw[b];exact⟨a,c⟩
 .obtain⟨ds',p,i,j⟩:=l (λh=>b (g (.inl h))) (eq_true_of_ne_false λh=>b (g (.inr h)));rw[p];refine⟨i,λk d o=>?_⟩;obtain⟨e,h0,rfl⟩:=sg (f:=λk d=>if k∈aR ds n.drives then dD (aP n) (ct m d (aP n).length)else d) j o;split
  .exact Uq (Ur (c k e h0))
  .exact c k e h0
theorem Ab.put(I:Ab i p m C ds){name:ByteArray}{b:aL}(o:name∈rv)(n:(hY b:Int)<=3*(p.1*p.2.2)+1)(a:∀k d,aH (di m 0 Pow.new ds name b).2.2.2 k=dB d->hY d.l<=d.room):∃e c f ds',di m 0 Pow.new ds name b=(e,c,Pow.new,ds')/\Ab (i+1) p c f ds':=by obtain⟨e,c,f,ds',h,j⟩:=I.os.put o n a;have g:=ait I.os.sto I.q name b;rw[h]at g;exact⟨e,c,f,ds',h,j,g⟩
theorem Ab.del(I:Ab i p m C ds)(name:ByteArray)(a:∀k d,aH (cQ m 0 Pow.new ds name).2.2.2 k=dB d->hY d.l<=d.room):∃e b ds',cQ m 0 Pow.new ds name=(e,b,Pow.new,ds')/\Ab (i+1) p b C ds':=by
 obtain⟨e,b,ds',h,f⟩:=I.os.del name a;refine⟨e,b,ds',h,f,?_⟩;have c:∀k d,aH (cQ m 0 Pow.new ds name).2.2.2 k=dB d->Qt d:=by
  unfold cQ;rw[f9 i0];split
  .exact I.q
  .split
   .exact I.q
   .exact(aaP I.os.sto.len (QN I.os.wt.may ii _) hZ I.q).2
 rw[h]at c;exact c
theorem Ab.add(I:Ab i p m C ds){slot:Int}(t:0<=slot/\slot<9){cells:Int}(s:2<=cells)(c:∀k d,aH (iv m 0 Pow.new ds slot cells).2.2.2 k=dB d->hY d.l<=d.room):∃e g ds',iv m 0 Pow.new ds slot cells=(e,g,Pow.new,ds')/\Ab (i+1) p g C ds':=by
 obtain⟨e,g,ds',h,r⟩:=I.os.add t s c;refine⟨e,g,ds',h,r,?_⟩;have o:=Lt (ds:=ds) (slot:=slot) ii I.os.wt.len;have f:∀k d,aH (iv m 0 Pow.new ds slot cells).2.2.2 k=dB d->Qt d:=by
  unfold iv;rw[f9 i0];split
  .exact I.q
  split
  .exact I.q
  rename_i j;split
  .exact I.q
  rename_i f;have b:=aaP (m:=m) (n:=uv m (iC (m.drives++[slot]))) (ds:=ds.set slot.toNat (dB (ba.new cells.toNat))) (by simp[I.os.wt.len]) (Uo I.os.wt.may ii j f) hZ λk d a=>by
   rw[o]at a;split at a
   .injection a with a;rw[<-a];exact⟨hZ,hZ,hZ⟩
   .exact I.q k d a
  try dsimp only
  split
  .intro k d a;rw[Lt ii b.1]at a;split at a
   .cases a
   .exact b.2 k d a
  .exact b.2
 rw[h]at f;exact f
theorem Os.keep(I:Os i p m C ds)(K:ju m ds ds')(S:eJ m C ds')(r:∃M,Hi M m ds'):Os i p m C ds':=by
 refine⟨⟨I.wt.may,S.len,I.wt.pe,I.wt.dr,r,λh=>h.elim,I.wt.seq,I.wt.ent⟩,S,⟨λk l=>?_,λx f j c id hid=>?_⟩,I.ne⟩
 .obtain⟨d,b,n,o⟩:=I.full.live k l;obtain⟨e,g,a⟩:=K.at_ k d b;exact⟨e,g,a.lost.trans n,a.whole o⟩
 .obtain⟨k,l,d,b,q⟩:=I.full.all x f j c id hid;obtain⟨e,g,a⟩:=K.at_ k d b;exact⟨k,l,e,g,(lh (a.recs _ (nA I.wt.may (I.sto.cells k d b) q (lZ (I.sto.sX f c (I.sto.Do hid)) (iz _ _ _)) (I.sto.counts f c (I.sto.Do hid))))).1⟩
theorem Ab.aiS(I:Ab i p m C ds)(a:∀k d,aH ds k=dB d->hY d.l<=d.room/\d.room<=512)(t most:Int):(dW m 0 Pow.new ds t most).2.2.1=Pow.new/\Ab i p m C (dW m 0 Pow.new ds t most).2.2.2:=by
 obtain⟨M,H⟩:=I.os.wt.hi;obtain⟨o,u,_,w⟩:=adt (t:=t) (most:=most) H I.os.wt.may I.os.sto.len;by_cases f:(t<0∨t>=(hY (aR ds m.drives):Int)∨most<0∨most>64)∨jI (hY (aR ds m.drives):Int) t>4096
 .have:(dW m 0 Pow.new ds t most).2.2=(Pow.new,ds):=by
   unfold dW;rw[f9 i0];split
   .rfl
   .rename_i h;rw[f8 (f.resolve_left h)]
  rw[this];exact⟨hZ,I⟩
 .have b:hY (aR ds m.drives)<=9:=by
   rw[I.os.full.aR];have:=nB (mq I.os.wt.may) (m:=(qx 9).map λi:Nat=>(i:Int)) λk n=>by
    have h0:=gv I.os.wt.may k n;have x:=I.os.wt.dr k n;exact qo.2 ⟨k.toNat,qz.2 ii,ii⟩
   simpa using this
  have Z:Dv m (aR ds m.drives) ds t most:=⟨hZ,b,ii,λh=>f (.inr h),ii,λs v=>gv I.os.wt.may s (jF v).1⟩
  obtain⟨_,_,K,S,r,_⟩:=Xk Z I.os.sto a λk d c=>(I.q k d c).1;refine⟨o,I.os.keep K S ⟨M,u⟩,λk e j=>⟨(r k e j).2,?_⟩⟩;obtain⟨d,c,g⟩:=w.back j;exact g.q (I.q k d c).2
end
variable {q:bD}
section
variable {pw:eS} {L:List bD}
theorem Rm(y:rq)(p:y.1=3)(r:bc m=ez)(H:aa B h0 h (bu a pw da offs w ds m::aj b 60 (eZ q (dB a))::As)):
  ai xT 19 #[xL (dB b),oc y] h λv h'=>v=mR (dw (cQ m offs w ds y.2.1).1)/\
   aa B h0 h' (bu a pw da offs (cQ m offs w ds y.2.1).2.2.1 (cQ m offs w ds y.2.1).2.2.2 (cQ m offs w ds y.2.1).2.1::aj b 60 (eZ q (dB a))::As):=by
 refine ts Tryz.func19 ?_ (v7 (ws [] [(5,78)] u9)) (args:=[(dB b),y]);refine H.boxed λx s d=>?_;have d:=d.aZ;refine d.alloc ae hZ λk u c=>?_;have c:=c.aZ;obtain⟨R,i⟩:=x6 (cQ m offs w ds y.2.1)
 rw[<-i];refine bB (λ_ h'=>aa B h0 h' (aj k 43 (gA (dw R.1))::bu a pw da offs R.2.2.1 R.2.2.2 R.2.1::aj b 60 (eZ q (dB a))::As)) ?_ ?_
 .refine⟨y.1,(c.box 1 hZ).cell0 hZ,?_⟩;rw[p];refine aX (λe=>absurd e i0) λ_=>aX (λe=>absurd e i0) λ_=>aX (λ_=>?_) λe=>absurd hZ e;refine⟨b,hZ,dB a,(c.box 3 hZ).cell hZ,y.2.1,(c.box 1 hZ).cell hZ,?_⟩;have j:=c.aJ 4 [2,0,3];refine(WG y.2.1 r j).mono ?_;rw[<-i];rintro _ D ⟨rfl,l⟩;refine⟨_,hZ,x7,l.fv ae 1 hZ hZ [xJ xP R.1] hZ hZ hZ i6 λt o=>⟨x7,?_⟩⟩;exact o.aJ 3 [1,0,2]
 .rintro _ z g;refine⟨dw R.1,(g.box 0 hZ).aA _ hZ,g.storeAll ae 0 hZ hZ (gA (dw R.1)) hZ hZ hZ hZ λA f=>?_⟩;exact⟨dw R.1,(f.box 0 hZ).aA _ hZ,hZ,f.rest⟩
theorem Xl(y:rq)(g:y.1=3)(k:bc m=ez)(H:aa B h0 h (bu a pw da offs w ds m::aj b 60 (eZ q (dB a))::As)):
  ai xT 9 #[xL (dB b),oc y] h λv h'=>v=mR (dw (cQ m offs w ds y.2.1).1)/\
   aa B h0 h' (bu a pw da offs (cQ m offs w ds y.2.1).2.2.1 (cQ m offs w ds y.2.1).2.2.2 (cQ m offs w ds y.2.1).2.1::aj b 60 (eZ q (dB a))::As):=by
 refine ts Tryz.func9 ?_ (v7 (v7 (u7 (v6 [] [(8,101)] (v7 (v1 (ws [(11,ka)] [(11,17)] u9)))) u9))) (args:=[(dB b),y]);refine H.boxed λp l d=>?_;have d:=d.aZ;refine d.alloc ae hZ λr o c=>aY (λe=>jj) λ_=>aG ?_;have c:=c.aZ.aJ 4 [2,3,1,0];refine⟨y.1,(c.box 2 hZ).cell0 hZ,aG ?_⟩;rw[g];refine aX (λe=>absurd e i0) λ_=>aX (λe=>absurd e i0) λ_=>aX (λ_=>?_) λe=>absurd hZ e;refine aY (λ_=>?_) λe=>jj
 refine⟨y,(c.box 2 hZ).aA _ hZ,(Rm y g k c).mono ?_⟩;obtain⟨R,j⟩:=x6 (cQ m offs w ds y.2.1)
 rw[<-j];rintro _ h3 ⟨rfl,i⟩;refine⟨dw R.1,hZ,i.storeAll ae 3 hZ hZ (gA (dw R.1)) hZ hZ hZ hZ λs f=>?_⟩;exact⟨dw R.1,(f.box 3 hZ).aA _ hZ,hZ,f.aJ 4 [0,1]⟩
theorem Lu(y:rq)(p:y.1=4)(s:bc m=ez)(t:dE w offs=eH)(H:aa B h0 h (bu a pw da offs w ds m::aj b 60 (kC q (dB a) L)::As)):
  ai xT 19 #[xL (dB b),oc y] h λv h'=>∃r:Sl,v=mR (0,ck,r,0,0,0,ck,0)/\Sp h h' [an 9 r 1 od (ow m offs w)]:=by
 refine ts Tryz.func19 ?_ (v7 (ws [] [(5,78)] u9)) (args:=[(dB b),y]);have c:=H.box 1 hZ;refine(Sp.refl h).boxed λA u l=>l.alloc ae hZ λD z f=>aG ?_;refine⟨y.1,(f.box 0 hZ).cell0 hZ,?_⟩;rw[p];refine aX (λe=>absurd e i0) λ_=>aX (λe=>absurd e i0) λ_=>aX (λe=>absurd e i0) λ_=>aX (λ_=>?_) λe=>absurd hZ e;have i:=c.ac f.ac c.lt;refine⟨b,hZ,dB a,i.cell hZ,(ade s (H.up f.ac)).x0 λr h3 o=>?_⟩;have k:=f.comp o;refine⟨r,hZ,?_⟩;refine k.store ae 1 hZ hZ 2 [r] hZ hZ hZ i6 λE g=>?_;have d:=c.ac g.ac c.lt;refine⟨b,hZ,dB a,d.cell hZ,aY (λe=>jj) λ_=>⟨b,hZ,dB a,d.cell hZ,(Qj (H.up g.ac)).xa ?_⟩⟩;refine⟨_,hZ,aY (λe=>by rw[t]at e;cases e) λ_=>?_⟩;refine⟨(0,ck,r,0,0,0,ck,0),(g.box 1 hZ).aA _ hZ,g.storeAll ae 1 hZ hZ (gA (0,ck,r,0,0,0,ck,0)) hZ hZ hZ hZ λx j=>?_⟩;exact⟨(0,ck,r,0,0,0,ck,0),(j.box 1 hZ).aA _ hZ,r,hZ,j.bt [2]⟩
theorem Ah(y:rq)(g:y.1=4)(k:bc m=ez)(l:dE w offs=eH)(H:aa B h0 h (bu a pw da offs w ds m::aj b 60 (kC q (dB a) L)::As)):
  ai xT 9 #[xL (dB b),oc y] h λv h'=>∃r:Sl,v=mR (0,ck,r,0,0,0,ck,0)/\Sp h h' [an 9 r 1 od (ow m offs w)]:=by
 refine ts Tryz.func9 ?_ (v7 (v7 (u7 (v6 [] [(8,101)] (v7 (v1 (ws [(11,ka)] [(11,17)] u9)))) u9))) (args:=[(dB b),y]);refine(Sp.refl h).boxed λs o i=>i.alloc ae hZ λt p c=>aY (λe=>jj) λ_=>aG ?_;refine⟨y.1,(c.box 0 hZ).cell0 hZ,aG ?_⟩;rw[g];refine aX (λe=>absurd e i0) λ_=>aX (λe=>absurd e i0) λ_=>aX (λe=>absurd e i0) λ_=>aX (λ_=>?_) λe=>absurd hZ e;refine aY (λ_=>?_) λe=>jj
 refine⟨y,(c.box 0 hZ).aA _ hZ,(Lu y g k l (H.up c.ac)).x0 λr h3 j=>?_⟩;obtain⟨Y,d⟩:∃Y:Bl,Y=(0,ck,r,0,0,0,ck,0):=⟨_,rfl⟩
 rw[<-d];refine⟨Y,hZ,(c.comp j).storeAll ae 1 hZ hZ (gA Y) hZ hZ hZ hZ λu f=>?_⟩;exact⟨Y,(f.box 1 hZ).aA _ hZ,r,by rw[<-d],f.bt [2]⟩
theorem Xm(y:rq)(l:y.1=6)(o:bc m=ez)(H:aa B h0 h (bu a pw da offs w ds m::aj b 60 (eZ q (dB a))::As)):
  ai xT 9 #[xL (dB b),oc y] h λv h'=>v=mR (dw (iv m offs w ds y.2.2.2.1 y.2.2.2.2.1).1)/\
   ∃c,aa B h0 h' (bu a pw c offs (iv m offs w ds y.2.2.2.1 y.2.2.2.2.1).2.2.1 (iv m offs w ds y.2.2.2.1 y.2.2.2.2.1).2.2.2 (iv m offs w ds y.2.2.2.1 y.2.2.2.2.1).2.1::aj b 60 (eZ q (dB a))::As):=by
 refine ts Tryz.func9 ?_ (v7 (v7 (u7 (v6 [] [(8,101)] (v7 (v1 (ws [(11,ka)] [(11,17)] u9)))) u9))) (args:=[(dB b),y]);obtain⟨R,k⟩:=x6 (iv m offs w ds y.2.2.2.1 y.2.2.2.2.1)
 refine H.boxed λt p f=>?_;have f:=f.aZ;refine f.alloc ae hZ λu s d=>aY (λe=>jj) λ_=>?_;have d:=d.aZ.aJ 4 [2,3,1,0];refine aG ⟨y.1,(d.box 2 hZ).cell0 hZ,aG ?_⟩;rw[l];refine aX (λe=>absurd e i0) λ_=>aX (λe=>absurd e i0) λ_=>aX (λe=>absurd e i0) λ_=>aX (λe=>absurd e i0) λ_=>?_;refine aY (λe=>jj) λ_=>?_;refine aX (λ_=>?_) λe=>absurd hZ e;refine⟨b,hZ,dB a,(d.box 1 hZ).cell hZ,y.2.2.2.1,(d.box 2 hZ).cell hZ,y.2.2.2.2.1,(d.box 2 hZ).cell hZ,(afJ y.2.2.2.1 y.2.2.2.2.1 o d).mono ?_⟩;rw[<-k];rintro _ h3 ⟨rfl,c,j⟩;refine⟨R.1,hZ,x7,j.fv ae 3 hZ hZ [xJ xP R.1] hZ hZ hZ i6 λx g=>⟨x7,?_⟩⟩;refine⟨dw R.1,(g.box 3 hZ).aA (gA (dw R.1)) hZ,g.storeAll ae 3 hZ hZ (gA (dw R.1)) hZ hZ hZ hZ λr i=>?_⟩;exact⟨dw R.1,(i.box 3 hZ).aA (gA (dw R.1)) hZ,hZ,c,i.aJ 4 [0,1]⟩
theorem Rn(y:rq)(s:y.1=10)(t:bc m=ez)(o:-(2^62)<=y.2.2.2.2.1/\y.2.2.2.2.1<=2^62)(H:aa B h0 h (bu a pw da offs w ds m::aj b 60 (eZ q (dB a))::As)):
  ai xT 9 #[xL (dB b),oc y] h λv h'=>(∃Y:Bl,v=mR Y)/\
   aa B h0 h' (bu a pw da offs (dW m offs w ds y.2.2.2.2.1 y.2.2.2.2.2.1).2.2.1 (dW m offs w ds y.2.2.2.2.1 y.2.2.2.2.2.1).2.2.2 m::aj b 60 (eZ q (dB a))::As):=by
 refine ts Tryz.func9 ?_ (v7 (v7 (u7 (v6 [] [(8,101)] (v7 (v1 (ws [(11,ka)] [(11,17)] u9)))) u9))) (args:=[(dB b),y]);obtain⟨R,r⟩:=x6 (dW m offs w ds y.2.2.2.2.1 y.2.2.2.2.2.1)
 refine H.boxed λA u f=>?_;have f:=f.aZ;refine f.alloc ae hZ λD z c=>aY (λe=>jj) λ_=>?_;have c:=c.aZ.aJ 4 [2,3,1,0];refine aG ⟨y.1,(c.box 2 hZ).cell0 hZ,aG ?_⟩;rw[s];refine aX (λe=>absurd e i0) λ_=>aX (λe=>absurd e i0) λ_=>aX (λe=>absurd e i0) λ_=>aX (λe=>absurd e i0) λ_=>?_;refine aY (λe=>jj) λ_=>?_;refine aX (λe=>absurd e i0) λ_=>aX (λe=>absurd e i0) λ_=>aX (λe=>absurd e i0) λ_=>aX (λe=>absurd e i0) λ_=>aX (λ_=>?_) λe=>absurd hZ e;refine⟨b,hZ,dB a,(c.box 1 hZ).cell hZ,y.2.2.2.2.1,(c.box 2 hZ).cell hZ,y.2.2.2.2.2.1,(c.box 2 hZ).cell hZ,(Xi y.2.2.2.2.1 y.2.2.2.2.2.1 t o c).mono ?_⟩;rw[<-r];rintro _ h3 ⟨rfl,j⟩;obtain⟨k,d⟩:∃k:Int,k=(R.1:Nat):=⟨_,rfl⟩
 rw[<-d];refine⟨(k,R.2.1),hZ,x7,?_⟩;refine j.store ae 3 hZ hZ 7 [xJ xP k] hZ hZ hZ i6 λF p=>⟨x7,?_⟩
 refine p.fv ae 3 hZ hZ [xJ xP R.2.1] hZ hZ hZ i6 λx i=>⟨x7,?_⟩
 obtain⟨Y,l⟩:∃Y:Bl,Y=(R.2.1,ck,ck,0,0,0,ck,k):=⟨_,rfl⟩
 refine⟨Y,(i.box 3 hZ).aA (gA Y) (by rw[l];rfl),i.storeAll ae 3 hZ hZ (gA Y) hZ hZ hZ hZ λE g=>?_⟩;exact⟨Y,(g.box 3 hZ).aA (gA Y) hZ,⟨Y,hZ⟩,g.aJ 4 [0,1]⟩
end
variable {h':f7}
theorem Xn(H:aa B h0 h (ce 118 a w::As)):ai xT 70 #[xL (dB a)] h λv h'=>v=.tuple #[]/\aa B h0 h' (ce 118 a w.again::As):=by
 obtain⟨l,i,c⟩:=H.rQ;refine ts Tryz.func70 ?_;refine aY (λ_=>?_) λe=>jj
 refine⟨a,hZ,c.fv ae 0 hZ hZ [xN eH] hZ hZ hZ i6 λj d=>?_⟩;refine⟨a,hZ,d.store ae 0 hZ hZ 1 [xN eH] hZ hZ hZ t6 λh3 b=>?_⟩;refine⟨a,hZ,b.store ae 0 hZ hZ 2 [xJ xP 0] hZ hZ hZ t6 λg f=>⟨hZ,?_⟩⟩;exact aa.CR (w:=w.again) (l:=0) (λk e=>jj) f
section
variable {pw:eS}
end
end Go.Qw
