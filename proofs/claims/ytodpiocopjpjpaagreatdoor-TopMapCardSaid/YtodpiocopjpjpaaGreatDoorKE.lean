/- Lemmas for the proof of the law; no condition. -/
import Derived.Test.YtodpiocopjpjpaaGreatDoorKD
set_option maxHeartbeats 2000000
set_option linter.unusedVariables false
set_option linter.unusedSimpArgs false
open Go.Proofs.Tryz renaming prog -> kg
open Prod renaming fst -> qD, snd -> zw
open List renaming countP_le_length -> xj, pairwise_lt_range -> yK, range -> qn, replicate -> qf
open Int renaming fdiv -> zr, tdiv -> yp
open Go.Value renaming agg -> xZ, bool -> xY, int -> xU, pointer -> xW, slice -> xV, string -> xX
open Go.IntKind renaming bits -> qz, i64 -> ka, u32 -> ke, u64 -> kf, u8 -> kb, wrap -> qd
open BitVec renaming ofInt -> qG
open UInt8 renaming ofNat -> zL
set_option maxRecDepth 100000
open Option renaming some -> dB, none -> eH
open Bool renaming true -> eS, false -> eX
open Go.Qw renaming Heap -> f9
open List renaming length -> i4
open Go.Qw.cO renaming two -> u9, n -> v6, inn -> v7, loop -> ws, tn -> xc, lp -> x0, jn -> x6
namespace Go.Qw
open Go.Proofs
variable {p:Pm} {m:au} {ds ds':aD}
section
variable {C:Int->aL}
structure ajZ (m:au) (ds ds':aD) (gone:av):Prop where
 len:i4 ds'=64
 at_:∀k,k∉gone->aT ds' k=aT ds k
 live:∀k,k∈aK ds' m.drives↔k∈aK ds m.drives/\k∉gone
 sub:∀k∈gone,k∈aK ds m.drives
 nd:gone.Nodup
theorem DE{o b:Int}{live:av}{i:Nat}(a:i<i4 live):(dz m ds o b live).getD i []=(ik m ds o b live[i]).map qD:=by rw[gh [] (by unfold dz;grind)];unfold dz;unfold ff;simp
end
theorem FY(W:bX)(a:av)(x:Int):∀k,x∈oM W a k↔∃i,i<k/\(i:Int)∉a/\x∈W.getD i []
 |0=>by simp[oM]
 |k+1=>by
  rw[oM,qt,FY W a x k]
  grind
theorem aaE(p:Pm)(seed:Int){a b:av}(h:∀x∈a,x∈b):nV p seed a<=nV p seed b:=by
 refine EF (jr p seed a) (jr p seed b) λr c=>?_;unfold db at c⊢
 grind
theorem aaF{p:Pm}{seed:Int}{W V:bX}{g g':av}(c:i4 W<=i4 V)(b:∀x∈g',x∈g)(d:∀i x,x∈W.getD i []->x∈V.getD i []):oG p seed W g<=oG p seed V g':=by
 refine aaE p seed λx a=>?_;rw[FY]at a⊢
 grind
theorem Nh{p:Pm}{seed:Int}{W V:bX}{t:Nat}(e:i4 V=i4 W)(c:∀i x,x∈W.getD i []->x∈V.getD i [])(h:oh p seed W t=eH):oh p seed V t=eH:=by
 unfold oh at h⊢;rw[e];rw[w4]at h⊢;intro g b d;have j:(oG p seed W g:Int)=bp p:=by simpa using h g b
 have f:=aaF (p:=p) (seed:=seed) (W:=W) (V:=V) (g:=g) (g':=g) i6 (λ_ h=>h) c;have h3:=abH p seed (oM V g V.length);have a:(oG p seed V g:Int)≠bp p:=i0 d;apply a;unfold oG at*;omega
section
variable {C:Int->aL}
theorem adv(f:bh m=eS){l l':ct}(d:∀c∈l',dR m C c)(h:∀c∈l,c∈l'){r:cH}(e:r∈dJ m l):r∈dJ m l':=by obtain⟨a,b,c⟩:=kp e;exact sA f d (h _ a) b c
theorem Ni(g:bh m=eS){l:ct}(i:∀c∈l,dR m C c){r:cH}:r∈dJ m (cz m l)↔r∈dJ m l:=by
 constructor
 .intro d;obtain⟨a,b,c⟩:=kp d;rcases qt.1 a with h|h
  .rw[oC h]at b;cases b
  .obtain⟨j,f,e⟩:=qo.1 h;obtain⟨_,k,_⟩:=kp f
   grind
 .intro d;obtain⟨a,b,c⟩:=kp d;exact sA g (Lw g i) (wC _ (qo.2 ⟨r,d,i5⟩)) b c
theorem Xp(r:cH):nU r r=eS:=by rw[mg];simp
theorem Kq(l:ct):(dJ m l).Nodup:=(Ti m l).imp λh e=>by subst e;rw[Xp]at h;cases h
theorem agi{l l':ct}(h:∀r∈dJ m l,r∈dJ m l'):i4 (dJ m l)<=i4 (dJ m l'):=by
 letI:DecidableEq cH:=λa b=>Classical.propDecidable _
 exact pc (Kq l) h
theorem nN(a:bh m=eS){l:ct}:ju m l=eS↔∀c∈ba m,c∈l:=by
 unfold ju
 grind
theorem IF(l:ct):i4 (cz m l)=i4 (ba m)+i4 (dJ m l):=by unfold cz ry;simp
structure DK (m:au) (d d':be):Prop where
 lost:d'.lost=d.lost
 room:d'.room=d.room
 recs:∀r∈dJ m d.l,r∈dJ m d'.l
 whole:ju m d.l=eS->ju m d'.l=eS
theorem DK.refl(d:be):DK m d d:=⟨i5,i5,λ_ h=>h,λh=>h⟩
theorem DK.trans{a b c:be}(d:DK m a b)(e:DK m b c):DK m a c:=⟨e.lost.trans d.lost,e.room.trans d.room,λr h=>e.recs r (d.recs r h),λh=>e.whole (d.whole h)⟩
structure jx (m:au) (ds ds':aD):Prop where
 len:i4 ds'=i4 ds
 at_:∀k d,aT ds k=dB d->∃d',aT ds' k=dB d'/\DK m d d'
 no:∀k,aT ds k=eH->aT ds' k=eH
theorem jx.refl(ds:aD):jx m ds ds:=⟨i5,λ_ d h=>⟨d,h,.refl d⟩,λ_ h=>h⟩
theorem jx.trans{a b c:aD}(e:jx m a b)(f:jx m b c):jx m a c:=⟨f.len.trans e.len,λk d p=>by
 obtain⟨l,o,g⟩:=e.at_ k d p;obtain⟨i,n,j⟩:=f.at_ k l o;exact⟨i,n,g.trans j⟩,λk h=>f.no k (e.no k h)⟩
theorem jx.set{k:Int}{d e:be}(a:i4 ds=64)(b:aT ds k=dB d)(h:DK m d e):jx m ds (ck ds k e):=⟨Az _ _ _,λs x c=>by
 rw[jK a b];split
 .grind
 .exact⟨x,c,.refl x⟩,λs f=>by
 rw[jK a b]
 grind⟩
theorem jx.live{ds':aD}(K:jx m ds ds')(l:av):aK ds' l=aK ds l:=by
 refine List.filter_congr λx _=>?_;unfold isLive;cases hd:aT ds x with
 |none=>rw[K.no x hd]
 |some d=>
  obtain⟨a,e,k⟩:=K.at_ x d hd;rw[e];simp only[k.lost]
theorem jx.syms{ds':aD}(K:jx m ds ds'){o b k:Int}{id:Int}(h:id∈(ik m ds o b k).map qD):id∈(ik m ds' o b k).map qD:=by obtain⟨x,g,rfl⟩:=qo.1 h;obtain⟨d,r,a,c,j,i,rfl⟩:=Dx g;obtain⟨l,e,f⟩:=K.at_ k d a;refine qo.2 ⟨(r.id,r.data),?_,i5⟩;unfold ik;rw[e];exact qo.2 ⟨r,qB.2 ⟨f.recs r c,j1⟩,i5⟩
theorem Uu(a:bh m=eS){d:be}(b:∀c∈d.l,dR m C c):DK m d {d with l:=cz m d.l,wait:=0,laid:=[],has:=eX}:=
 ⟨i5,i5,λr h=>(Ni a b).2 h,λ_=>(nN a).2 λc h=>zm _ h⟩
structure Tidy (m:au) (d:be):Prop where
 whole:ju m d.l=eS
 keep:i4 (cz m d.l)<=i4 d.l
 room:i4 d.l<=d.room
theorem Nj(a:bh m=eS){d:be}(e:∀c∈d.l,dR m C c)(b:i4 (cz m d.l)<=d.room):Tidy m {d with l:=cz m d.l,wait:=0,laid:=[],has:=eX}:=
 ⟨(nN a).2 λc h=>zm _ h,by
  rw[IF,IF];exact Nat.add_le_add_left (agi λr h=>(Ni a e).1 h) _,b⟩
theorem oJ{k:Int}{w:Pow}:∀{live:av} {w:Pow} {ds:aD},i4 ds=64->k∉live->aT (dU m live w ds).2.2 k=aT ds k
 |[],_,_,_,_=>rfl
 |j::live,w,ds,h64,hk=>by
  have b:k≠j:=λe=>hk j1;have a:k∉live:=λh=>hk (qC _ h);unfold dU;cases hd:aT ds j with
  |none=>exact oJ (w:=w) h64 a
  |some d=>
   try dsimp only
   split
   .exact oJ (w:=w) h64 a
   .have e:aT (ck ds j (d.rewrite w (cz m d.l)).2.2) k=aT ds k:=by rw[jK h64 hd,g9 b]
    split
    .rw[oJ (w:=w) (by rw[Az];exact h64) a,e]
    omega
theorem DF:∀{live:av} {ds:aD},live.Nodup->eU m C ds->(∀k∈live,∃d,aT ds k=dB d/\d.lost=eX)->(∀k d,aT ds k=dB d->i4 d.l<=d.room/\d.wait=0)->
  (dU m live Pow.new ds).2.1=Pow.new/\((dU m live Pow.new ds).1=0∨(dU m live Pow.new ds).1=7)/\eU m C (dU m live Pow.new ds).2.2/\jx m ds (dU m live Pow.new ds).2.2/\
  (∀k d,aT (dU m live Pow.new ds).2.2 k=dB d->i4 d.l<=d.room/\d.wait=0)/\
  ((∀k d,aT ds k=dB d->k∈live->i4 (cz m d.l)<=d.room)->(dU m live Pow.new ds).1=0)/\
  ((dU m live Pow.new ds).1=0->∀k∈live,∀d,aT (dU m live Pow.new ds).2.2 k=dB d->Tidy m d)
 |[],ds,_,S,_,hw=>⟨i5,.inl i5,S,.refl _,hw,λ_=>rfl,λ_ k E=>by cases E⟩
 |k::live,ds,g,S,hlv,hw=>by
  obtain⟨q,g⟩:=List.nodup_cons.1 g;obtain⟨d,i,D⟩:=hlv k qQ;have o:=S.cells k d i;have r:=λj f=>hlv j (qC _ f);unfold dU;rw[i]
  try dsimp only
  by_cases e:d.l=cz m d.l
  .rw[g0 e];obtain⟨y,a2,a3,a4,a5,u,v⟩:=DF (live:=live) g S r hw;refine⟨y,a2,a3,a4,a5,λh=>u λj x a f=>h j x a (qC _ f),λh0 j f x a=>?_⟩;rcases qX.1 f with rfl|f
   .rw[oJ (w:=Pow.new) S.len q,i]at a;injection a with a
    subst a;exact⟨(nN S.may).2 λc o=>by rw[e];exact zm _ o,by rw[<-e];exact qi _,(hw j d i).1⟩
   .exact v h0 j f x a
  .rw[g9 e];by_cases t:i4 (cz m d.l)<=d.room
   .have z:=FB iF (Dt m d.l) D t;rw[z];rw[g0 rfl];have A:=Uu S.may o;have B:eU m C (ck ds k {d with l:=cz m d.l,wait:=0,laid:=[],has:=eX}):=S.Xm i (Lw S.may o);have p:=λs=>jK (d:={d with l:=cz m d.l,wait:=0,laid:=[],has:=eX}) S.len i s;have F:jx m ds (ck ds k {d with l:=cz m d.l,wait:=0,laid:=[],has:=eX}):=.set S.len i A;obtain⟨y,a2,a3,a4,a5,u,v⟩:=DF (live:=live) g B (λj f=>j1) (λj x a=>by
     rw[p]at a;split at a
     .injection a with a;subst a;exact⟨t,i5⟩
     .exact hw j x a)
    refine⟨y,a2,a3,F.trans a4,a5,λh=>u λj x a f=>?_,λh0 j f x a=>?_⟩
    .grind
    .rcases qX.1 f with rfl|f
     .rw[oJ (w:=Pow.new) B.len q,p,g0 rfl]at a;injection a with a
      subst a;exact Nj S.may o t
     .exact v h0 j f x a
   .have z:d.rewrite Pow.new (cz m d.l)=(7,Pow.new,d):=by unfold be.rewrite;have n:(cz m d.l).all (λb=>decide (i4 b=64))=eS:=qS.2 λc h=>hU (Dt m d.l c h);rw[n,g9 i7,g9 (by rw[D];decide),g0 i6]
    rw[z];rw[MJ i];exact⟨i5,.inr i5,S,.refl _,hw,λh=>absurd (h k d i qQ) t,λh=>absurd h (show¬(7:Int)=0 by decide)⟩
structure QY (m:au) (C:Int->aL) (e:Qw.bU) (i:Nat) (x:jR):Prop where
 he:e∈m.aA
 hi:i<e.tries.length
 o:x.o=e.object
 b:x.b=i
 seed:x.seed=cg e.object i (e.tries.getD i 0)
 M:x.M=dP m.p x.seed (gq m C e.object i)
theorem QY.JW{e:Qw.bU}{i:Nat}{x:jR}(X:QY m C e i x)(id:Nat):x.JW m id=lW m e.object i (cg e.object i (e.tries.getD i 0)) (gq m C e.object i) id:=by unfold jR.JW lW ue;rw[X.M,X.o,X.b,X.seed]
theorem aaG(S:eU m C ds){e:Qw.bU}(c:e∈m.aA){i:Nat}(d:i<e.tries.length){id:Nat}(hid:id<=65535):dR m C (cD (lW m e.object i (cg e.object i (e.tries.getD i 0)) (gq m C e.object i) id)):=by
 have b:=S.FU c d hid;have a:=po b (km _ _ _);refine⟨λr h=>?_,λr h _=>?_,λg h=>?_⟩
 .rw[a]at h;injection h with h;subst h
  exact S.old c
 .rw[a]at h;injection h with h;subst h
  rfl
 .rw[Ke b]at h;cases h
theorem aaH{W:bX}:fk W<=i4 W.flatten:=by
 have h:=pc (l:=(qn (fk W)).map λi:Nat=>(i:Int)) (m:=W.flatten) (by
  rw[List.Nodup,yE];exact yK.imp λh e=>i6) λx b=>by
   obtain⟨j,c,rfl⟩:=qo.1 b;have:=FJ (qK.1 c);unfold mB at this;rw[zT]at this;obtain⟨l,a,d⟩:=this;exact List.mem_flatten.2 ⟨l,a,i0 d⟩
 grind
theorem QZ{W:bX}{c:Nat}(h:∀l∈W,i4 l<=c):i4 W.flatten<=i4 W*c:=by
 induction W with
 |nil=>simp
 |cons l W ih=>
  rw[q8,]
  grind
theorem aaI{live:av}{s:Int}(h:s∈live):∃k:Nat,gO live s=k/\∃a:k<i4 live,live[k]=s:=by
 unfold gO;cases hx:live.idxOf? s with
 |none=>
  grind
 |some k=>
  obtain⟨a,b,_⟩:=List.findIdx?_eq_some_iff_getElem.1 hx
  grind
def Nk(m:au)(live:av)(ds:aD)(x:jR):Prop:=∀k (a:k<i4 live),∀id∈x.W.getD k [],id∈(ik m ds x.o x.b live[k]).map qD
theorem Nk.keep{live:av}{ds':aD}{x:jR}(h:Nk m live ds x)(K:jx m ds ds'):Nk m live ds' x:=λk a id hid=>K.syms (h k a id hid)
theorem Tt(e:bh m=eS){d:be}{c:aL}{g:cH}(j:∀z∈d.l,dR m C z)(o:dR m C c)(s:dS c=dB g)(h:Tidy m d)(f:i4 d.l+1<=d.room)(n:Nat):Tidy m {d with l:=d.l++[c],wait:=n,laid:=[],has:=eX}:=by
 refine⟨(nN e).2 λz i=>zm _ ((nN e).1 h.whole z i),?_,j1⟩;have k:=h.keep;rw[IF]at k⊢;have p:i4 (dJ m (d.l++[c]))<=i4 (dJ m d.l++[g]):=by
  letI:DecidableEq cH:=λa b=>Classical.propDecidable _
  refine pc (Kq _) λr f=>?_;obtain⟨a,b,q⟩:=kp f;rcases qt.1 a with a|a
  .exact zm _ (sA e j a b q)
  grind
 grind
theorem aaJ(a:bh m=eS){d:be}{n:Int}(b:∀c∈d.l,dR m C c)(h:Tidy m d):Tidy m (cY m d n):=by
 unfold cY;split
 .exact h
 .exact Nj a b (qM h.keep h.room)
theorem agj(a:bh m=eS){d:be}{n:Int}(b:∀c∈d.l,dR m C c):DK m d (cY m d n):=by
 unfold cY;split
 .exact .refl d
 .exact Uu a b
structure rN (m:au) (C:Int->aL) (live:av) (ds:aD) (got:av):Prop where
 sto:eU m C ds
 lv:∀k∈live,∃d,aT ds k=dB d/\d.lost=eX
 wt:∀k d,aT ds k=dB d->d.wait=0∨k∈got
 tidy:∀k∈live,∀d,aT ds k=dB d->Tidy m d
 rm:∀k d,aT ds k=dB d->i4 d.l<=d.room/\d.room<=512
theorem BS{live set order:av}{c:aL}{id:Nat}{w:Pow}:∀l:List Nat,(gX m live set order c id w ds l).1=(7,w,ds)∨
  ∃i∈l,∃d,aT ds (fu order ((id)+i))=dB d/\io m d 1=eS/\gX m live set order c id w ds l=(jQ m c w ds (fu order ((id)+i)) d,gO live (fu order ((id)+i)),fu order ((id)+i))
 |[]=>.inl i5
 |i::l=>by
  unfold gX
  try dsimp only
  have step:∀{P:Prop},(gX m live set order c id w ds l).1=(7,w,ds)∨(∃i∈l,∃d,aT ds (fu order ((id)+i))=dB d/\io m d 1=eS/\gX m live set order c id w ds l=(jQ m c w ds (fu order ((id)+i)) d,gO live (fu order ((id)+i)),fu order ((id)+i)))->
   (gX m live set order c id w ds l).1=(7,w,ds)∨(∃j∈i::l,∃d,aT ds (fu order ((id)+j))=dB d/\io m d 1=eS/\gX m live set order c id w ds l=(jQ m c w ds (fu order ((id)+j)) d,gO live (fu order ((id)+j)),fu order ((id)+j))):=λ{P} h=>j1
  cases hd:aT ds (fu order ((id)+i))with
  |none=>exact step (P:=True) (BS l)
  |some d=>
   try dsimp only
   by_cases a:gO live (fu order ((id)+i))∈set∨io m d 1=eX
   .rw[g0 a];exact step (P:=True) (BS l)
   grind
theorem aaK{live set:av}{e:Qw.bU}{i:Nat}{x:jR}(ah:live.length<=9)(Q:rN m C live ds x.got)(X:QY m C e i x)(F:nJ m live x)(O:Nk m live ds x):
  (fV m live set Pow.new ds x).2.1=Pow.new/\((fV m live set Pow.new ds x).1=0∨(fV m live set Pow.new ds x).1=7)/\jx m ds (fV m live set Pow.new ds x).2.2.1/\
  rN m C live (fV m live set Pow.new ds x).2.2.1 (fV m live set Pow.new ds x).2.2.2.got/\QY m C e i (fV m live set Pow.new ds x).2.2.2/\Nk m live (fV m live set Pow.new ds x).2.2.1 (fV m live set Pow.new ds x).2.2.2:=by
 have u:fk x.W<=65535:=by
  have T:=aaH (W:=x.W);have h2:=QZ (W:=x.W) (c:=4160) λl hl=>by have:=F.rl l hl;have:=F.gl;omega
  have h3:=F.wl;have h4:x.W.length*4160<=9*4160:=zi _ i6;omega
 have g:=Q.sto.counts X.he X.hi u;have E:=Q.sto.FU X.he X.hi u;have A:=aaG Q.sto X.he X.hi u;obtain⟨p,v⟩:=z6 (lW m e.object i (cg e.object i (e.tries.getD i 0)) (gq m C e.object i) (fk x.W))
 rw[<-v]at g E A;have R:=po E (by rw[v];exact km _ _ _);have V:(cD p).length=64:=xy E;have eP:fV m live set Pow.new ds x=(let r:=gX m live set (cX x.o x.b live) (cD p) (fk x.W) Pow.new ds (qn (cX x.o x.b live).length);(r.1.1,r.1.2.1,r.1.2.2,if r.1.1=0 then x.BP (fk x.W) r.2.1 r.2.2 else x)):=by rw[v,<-X.JW];rfl
 rw[eP]
 try dsimp only
 obtain⟨o,ho⟩:=z6 (cX x.o x.b live)
 rw[<-ho];rcases BS (m:=m) (ds:=ds) (live:=live) (set:=set) (order:=o) (c:=cD p) (id:=fk x.W) (w:=Pow.new) (qn o.length)with h|⟨j,S,d,hd,hf,h⟩
 .rw[h]
  try dsimp only
  rw[g9 (show¬(7:Int)=0 by decide)];exact⟨i5,.inr i5,.refl _,Q,X,O⟩
 obtain⟨s,hs⟩:=z6 (fu o ((fk x.W:Int)+j))
 rw[<-hs]at hd h;have S:=qK.1 S;have H:s∈live:=by rw[hs];exact Dw (by rw[<-ho];exact Lv (by intro h;rw[h]at S;simp at S))
 obtain⟨kk,Y,U,ad⟩:=aaI H;have Z:=Q.sto.cells s d hd;obtain⟨r1,r2,r3⟩:=uK hf;have ea:jQ m (cD p) Pow.new ds s d=(0,Pow.new,ck ds s {cY m d 1 with l:=(cY m d 1).l++[cD p],wait:=(cY m d 1).wait+1,laid:=[],has:=eX}):=by
  unfold jQ;rw[JR iF hf]
  try dsimp only
  rw[g9 λh=>h i5,Hl (n:=0) iF r1 i6 V]
  try dsimp only
  rw[uM]
 rw[h,ea]
 try dsimp only
 rw[g0 rfl];obtain⟨y,q⟩:=z6 ({cY m d 1 with l:=(cY m d 1).l++[cD p],wait:=(cY m d 1).wait+1,laid:=[],has:=eX})
 rw[<-q];have B:=Q.sto.may;have G:=Lx B Z (N:=1);have L:∀c∈y.l,dR m C c:=λc f=>by
  rw[q]at f;rcases qt.1 f with f|f
  .exact G c f
  .rw[qw.1 f];exact A
 have I:DK m d y:=(agj B Z (n:=1)).trans (by
  rw[q];refine⟨i5,i5,λr hr=>adv B (l:=(cY m d 1).l) (l':=(cY m d 1).l++[cD p]) (λc f=>by
   rcases qt.1 f with f|f
   .exact G c f
   .rw[qw.1 f];exact A) (λc f=>zm _ f) hr,λhw=>(nN B).2 λc f=>zm _ ((nN B).1 hw c f)⟩)
 have K:jx m ds (ck ds s y):=.set Q.sto.len hd I;have t:=λz=>jK (d:=y) Q.sto.len hd z;have S':eU m C (ck ds s y):=Q.sto.Xm hd L;have P:Tidy m y:=by rw[q];exact Tt B G A R (aaJ B Z (Q.tidy s H d hd)) i6 _
 refine⟨i5,.inl i5,K,⟨S',λk D=>?_,λk z a=>?_,λk D z a=>?_,λk z a=>?_⟩,⟨X.he,X.hi,X.o,X.b,X.seed,X.M⟩,λk D id hid=>?_⟩
 .rw[t];split
  .exact⟨y,i5,by rw[I.lost];obtain⟨z,a,hl⟩:=Q.lv s H;rw[hd]at a;injection a with a;rw[a];exact hl⟩
  .exact Q.lv k D
 .show z.wait=0∨k∈x.got++[s]
  rw[t]at a;split at a
  .rename_i D;rw[D];exact .inr js
  .rcases Q.wt k z a with h|h
   .exact .inl h
   .exact .inr (zm _ h)
 .rw[t]at a;split at a
  .injection a with a
   rw[<-a];exact P
  .exact Q.tidy k D z a
 .rw[t]at a;split at a
  .injection a with a
   rw[<-a];exact⟨P.room,by rw[I.room];exact(Q.rm s d hd).2⟩
  .exact Q.rm k z a
 .have hid:id∈(x.W.set (gO live s).toNat (x.W.getD (gO live s).toNat []++[(fk x.W:Int)])).getD k []:=hid;rw[Y,qj]at hid;show id∈(ik m (ck ds s y) x.o x.b live[k]).map qD;have ab:kk<x.W.length:=by rw[F.wl];exact U
  by_cases J:k=kk
  .subst J;rw[gh [] (by rw[zf];exact ab),List.getElem_set_self]at hid;rcases qt.1 hid with T|T
   .exact K.syms (O k D id T)
   .rw[qw.1 T,ad];refine qo.2 ⟨(p.id,p.data),?_,by rw[v];rfl⟩;unfold ik;rw[t,g0 rfl];refine qo.2 ⟨p,qB.2 ⟨sA B L (by rw[q];exact wC _ js) R g,?_⟩,i5⟩;rw[X.o,X.b,v];show(decide (e.object=e.object)&&decide ((i:Int)=(i:Int)))=eS;simp
  .rw[qg,List.getElem?_set_ne λh=>J h.symm,<-qg]at hid;exact K.syms (O k D id hid)
theorem aaL{p:Pm}(c:bB p=eS){seed:Int}{W:bX}{t:Int}(a:0<=t/\t<=i4 W)(d:i4 W<=64)(b:¬jP W.length t>4096):jG p seed W t=match oh p seed W t.toNat with|some g=>(g,eS,0)|none=>([],eX,0):=by
 unfold jG
 grind
theorem Kr{live:av}{t most:Int}{e:Qw.bU}{i:Nat}(n:0<=t/\t<=i4 live)(b:i4 live<=9)(l:¬jP live.length t>4096)(a:most<=64):∀(f:Nat) (ds:aD) (x:jR),rN m C live ds x.got->QY m C e i x->nJ m live x->Nk m live ds x->
  (dQ m live t most f Pow.new ds x).2.1=Pow.new/\((dQ m live t most f Pow.new ds x).1=0∨(dQ m live t most f Pow.new ds x).1=7∨(dQ m live t most f Pow.new ds x).1=12)/\jx m ds (dQ m live t most f Pow.new ds x).2.2.1/\
  rN m C live (dQ m live t most f Pow.new ds x).2.2.1 (dQ m live t most f Pow.new ds x).2.2.2.got/\QY m C e i (dQ m live t most f Pow.new ds x).2.2.2/\nJ m live (dQ m live t most f Pow.new ds x).2.2.2/\Nk m live (dQ m live t most f Pow.new ds x).2.2.1 (dQ m live t most f Pow.new ds x).2.2.2/\
  ((dQ m live t most f Pow.new ds x).1=0->oh m.p x.seed (dQ m live t most f Pow.new ds x).2.2.2.W t.toNat=eH)/\
  (oh m.p x.seed x.W t.toNat=eH->0<f->dQ m live t most f Pow.new ds x=(0,Pow.new,ds,x))
 |0,ds,x,Q,X,F,O=>⟨i5,.inr (.inr i5),.refl _,Q,X,F,O,λh=>absurd h (show¬(12)=0 by decide),λ_ h=>absurd h i7⟩
 |f+1,ds,x,Q,X,F,O=>by
  have c:=aaL Q.sto.Dy (seed:=x.seed) (W:=x.W) (t:=t) ⟨n.1,by rw[F.wl];grind⟩ (by rw[F.wl];omega) (by rw[F.wl];exact l);unfold dQ
  try dsimp only
  rw[c];cases hwk:oh m.p x.seed x.W t.toNat with
  |none=>
   exact⟨i5,.inl i5,.refl _,Q,X,F,O,λ_=>hwk,λ_ _=>rfl⟩
  |some g=>
   by_cases j:(i4 x.got)>=most
   .rw[g0 j];exact⟨i5,.inr (.inr i5),.refl _,Q,X,F,O,λh=>absurd h (show¬(12)=0 by decide),λh=>j8⟩
   .rw[g9 j];obtain⟨k,a2,a3,a4,a5,d⟩:=aaK (set:=g) b Q X F O;have o:=(IB (set:=g) (w:=Pow.new) (ds:=ds) F i6).1;obtain⟨q,v⟩:=z6 (fV m live g Pow.new ds x)
    rw[<-v]at k a2 a3 a4 a5 d o⊢;by_cases h0:q.1≠0
    .grind
    .rw[g9 h0,k];obtain⟨A,b2,u,r,z,s,B,b8,_⟩:=Kr n b l a f q.2.2.1 q.2.2.2 a4 a5 o d;have y:q.2.2.2.seed=x.seed:=by rw[a5.seed,X.seed]
     rw[y]at b8;exact⟨A,b2,a3.trans u,r,z,s,B,b8,λh=>j8⟩
theorem rN.fit{live got:av}(Q:rN m C live ds got):Fit ds live []:=⟨Q.sto.len,λs a=>by
 obtain⟨d,b,c⟩:=Q.lv s a;exact⟨d,b,c,by have:=(Q.tidy s a d b).room;grind⟩⟩
theorem rN.sync{live got:av}(Q:rN m C live ds got)(q:∀s∈got,s∈live)(p:∀s∈live,0<=s/\s<64):
  (fp (cL got) Pow.new ds).1=0/\(fp (cL got) Pow.new ds).2.1=Pow.new/\jx m ds (fp (cL got) Pow.new ds).2.2/\rN m C live (fp (cL got) Pow.new ds).2.2 []/\∀k,(aT (fp (cL got) Pow.new ds).2.2 k).map be.l=(aT ds k).map be.l:=by
 obtain⟨v,a2,a3⟩:=Dr iF (cL got) ds Q.fit λs t=>by
  unfold cL at t;exact q s (i0 (qB.1 t).2)
 obtain⟨D,w⟩:=z6 ((fp (cL got) Pow.new ds).2.2)
 rw[<-w]at a2 a3⊢;have g:∀k d,aT ds k=dB d->∃b,aT D k=dB b/\b.l=d.l/\b.room=d.room/\b.lost=d.lost/\(b.wait=0∨b.wait=d.wait/\k∉cL got):=λk d c=>j1
 have j:∀k,aT ds k=eH->aT D k=eH:=λk h=>by rw[a3,h];rfl
 have f:∀k b,aT D k=dB b->∃d,aT ds k=dB d:=λk b h=>by
  cases c:aT ds k with
  |none=>rw[j k c]at h;cases h
  |some d=>exact⟨d,i5⟩
 refine⟨v,Dq iF _ _,⟨by rw[a2.len,Q.sto.len],λk d c=>?_,j⟩,⟨⟨Q.sto.may,a2.len,λk b a=>?_,Q.sto.ents⟩,λk o=>?_,λk b a=>?_,λk o b a=>?_,λk b a=>?_⟩,λk=>?_⟩
 .obtain⟨b,e,i,n,h3,_⟩:=g k d c;exact⟨b,e,h3,n,λr x=>by rw[i];exact x,λh=>by rw[i];exact h⟩
 .obtain⟨d,c⟩:=f k b a;obtain⟨z,e,i,_⟩:=g k d c;rw[a]at e;injection e with e;subst e
  rw[i];exact Q.sto.cells k d c
 .obtain⟨d,c,y⟩:=Q.lv k o;obtain⟨b,e,_,_,h3,_⟩:=g k d c;exact⟨b,e,by rw[h3];exact y⟩
 .obtain⟨d,c⟩:=f k b a;obtain⟨z,e,_,_,_,u⟩:=g k d c;rw[a]at e;injection e with e;subst e
  rcases u with h|⟨h,hn⟩
  .exact .inl h
  .rcases Q.wt k d c with h5|h5
   .exact .inl (h.trans h5)
   .exact absurd ((BL (p k (q k h5))).2 h5) hn
 .obtain⟨d,c⟩:=f k b a;obtain⟨z,e,i,n,_,_⟩:=g k d c;rw[a]at e;injection e with e;subst e
  have:=Q.tidy k o d c;exact⟨by rw[i];exact this.whole,by rw[i];exact this.keep,by rw[i,n];exact this.room⟩
 .obtain⟨d,c⟩:=f k b a;obtain⟨z,e,i,n,_,_⟩:=g k d c;rw[a]at e;injection e with e;subst e
  rw[i,n];exact Q.rm k d c
 .cases c:aT ds k with
  |none=>rw[j k c]
  |some d=>
   obtain⟨b,e,i,_⟩:=g k d c;rw[e];simp[i]
structure DG (m:au) (live:av) (ds:aD) (t most:Int):Prop where
 lv:live=aK ds m.drives
 Nm:i4 live<=9
 tt:0<=t/\t<i4 live
 c:¬jP live.length t>4096
 mo:0<=most/\most<=64
 slots:∀s∈live,0<=s/\s<64
def ky(m:au)(live:av)(ds:aD)(t:Int)(e:Qw.bU)(i:Nat):Prop:=oh m.p (cg e.object i (e.tries.getD i 0)) (dz m ds e.object i live) t.toNat=eH
theorem pC(m:au)(ds:aD)(o b:Int)(live:av):i4 (dz m ds o b live)=i4 live:=by unfold dz;rw[qp]
theorem ky.keep{live:av}{ds':aD}{t:Int}{e:Qw.bU}{i:Nat}(h:ky m live ds t e i)(K:jx m ds ds'):ky m live ds' t e i:=by
 refine Nh (by rw[pC,pC]) (λk x a=>?_) h;by_cases b:k<i4 live
 .rw[DE b]at a⊢;exact K.syms a
 .rw[qg,zd (by rw[pC];omega)]at a;cases a
theorem aaM{live:av}{t most:Int}{e:Qw.bU}{i:Nat}(Z:DG m live ds t most)(S:eU m C ds)(u:e∈m.aA)(y:i<e.tries.length)(g:∀k d,aT ds k=dB d->d.l.length<=512):
  ((fL m live ds e.object e.tries i).1=0∨(fL m live ds e.object e.tries i).1=11)/\
  ((fL m live ds e.object e.tries i).1=0->QY m C e i (fL m live ds e.object e.tries i).2/\Nk m live ds (fL m live ds e.object e.tries i).2/\(fL m live ds e.object e.tries i).2.W=dz m ds e.object i live)/\
  (ky m live ds t e i->(fL m live ds e.object e.tries i).1=0):=by
 have j:=S.jw u y;unfold Qw.jw at j;rw[<-Z.lv]at j;obtain⟨K,H,w,n,B⟩:=S.fy u y;have f:ja m.p (cg e.object i (e.tries.getD i 0)) (gq m C e.object i).length=0:=B.ja;unfold fL
 try dsimp only
 rw[j,<-Z.lv];by_cases s:eK m.p (cg e.object i (e.tries.getD i 0)) (kw m ds e.object i)=eS
 .rw[g0 s]
  try dsimp only
  rw[g9 λh=>h i5,g9 λh=>h f];refine⟨.inl i5,λ_=>⟨⟨u,y,i5,i5,i5,i5⟩,λk A id hid=>?_,i5⟩,λ_=>rfl⟩;dsimp only at hid⊢;rw[DE A]at hid;exact hid
 .rw[g9 s]
  try dsimp only
  rw[g0 (show¬(9:Int)=0 by decide)];refine⟨.inr i5,λh=>absurd h (show¬(11:Int)=0 by decide),λr=>absurd ?_ s⟩;unfold ky at r;obtain⟨W,o⟩:=z6 (dz m ds e.object i live)
  rw[<-o]at r;have F:W.length=live.length:=by rw[o];exact pC _ _ _ _ _
  have q:ints (qn t.toNat)∈uL W.length t.toNat:=qo.2 ⟨_,Pd js (λx v=>by have:=qK.1 v;have:=Z.tt;omega) yK,i5⟩;have E:(oG m.p (cg e.object i (e.tries.getD i 0)) W (ints (qn t.toNat)):Int)=bp m.p:=by have:=w4.1 r _ q;simpa using this
  have a:eK m.p (cg e.object i (e.tries.getD i 0)) (oM W (ints (qn t.toNat)) W.length)=eS:=by unfold eK;rw[S.Dy,Bool.true_and];exact beq_iff_eq.2 E
  refine Nb S.Dy (λx v=>?_) a;obtain⟨k,A,_,c⟩:=(FY W _ x W.length).1 v;have b:k<live.length:=i6
  rw[o,DE b]at c;obtain⟨z,D,rfl⟩:=qo.1 c;unfold kw ff;exact qo.2 ⟨z,List.mem_flatMap.2 ⟨live[k],by rw[<-Z.lv];exact qe b,D⟩,i5⟩
theorem Tu{live:av}{t most:Int}{e:Qw.bU}{i:Nat}(Z:DG m live ds t most)(Q:rN m C live ds [])(I:e∈m.aA)(P:i<e.tries.length):
  (dW m live t most Pow.new ds e i).2.1=Pow.new/\((dW m live t most Pow.new ds e i).1=0∨(dW m live t most Pow.new ds e i).1=7∨(dW m live t most Pow.new ds e i).1=11∨(dW m live t most Pow.new ds e i).1=12)/\jx m ds (dW m live t most Pow.new ds e i).2.2.1/\eU m C (dW m live t most Pow.new ds e i).2.2.1/\rN m C live (dW m live t most Pow.new ds e i).2.2.1 []/\
  ((dW m live t most Pow.new ds e i).1=0->ky m live (dW m live t most Pow.new ds e i).2.2.1 t e i)/\
  (ky m live ds t e i->dW m live t most Pow.new ds e i=(0,Pow.new,ds,0)):=by
 have a:∀k d,aT ds k=dB d->d.l.length<=512:=λk d E=>by have:=Q.rm k d E;omega
 obtain⟨y,u,z⟩:=aaM Z Q.sto I P a;have B:=λh=>IC (m:=m) (live:=live) (ds:=ds) (o:=e.object) (tries:=e.tries) (i:=i) a (by rw[<-Z.lv]) h;unfold dW
 try dsimp only
 obtain⟨p,M⟩:=z6 (fL m live ds e.object e.tries i)
 rw[<-M]at y u z B⊢;by_cases h0:p.1=0
 rotate_left
 .rw[g0 h0];exact⟨i5,y.elim (λh=>absurd h h0) λh=>.inr (.inr (.inl h)),.refl _,Q.sto,Q,λh=>absurd h h0,λh=>absurd (z h) h0⟩
 rw[g9 λh=>h h0];obtain⟨X,O,G⟩:=u h0;obtain⟨F,f⟩:=B h0;have N:rN m C live ds p.2.got:=by rw[f];exact Q
 obtain⟨v,a2,a3,a4,a5,g,r,w,a9⟩:=Kr (most:=most) ⟨Z.tt.1,by have:=Z.tt.2;omega⟩ Z.Nm Z.c Z.mo.2 65 ds p.2 N X F O;obtain⟨q,J⟩:=z6 (dQ m live t most 65 Pow.new ds p.2)
 rw[<-J]at v a2 a3 a4 a5 g r w a9⊢;rw[g9 i6,v];obtain⟨L,b2,D,n,R⟩:=a4.sync (λs H=>g.gi s H) Z.slots;rw[L,g9 λh=>h rfl]
 try dsimp only
 refine⟨b2,i6,a3.trans D,n.sto,n,λh=>?_,λh=>?_⟩
 .have h8:=w h;rw[X.seed]at h8;refine Nh (V:=dz m (fp (cL q.2.2.2.got) Pow.new q.2.2.1).2.2 e.object i live) (by rw[pC,g.wl]) (λk x j=>?_) h8;by_cases A:k<live.length
  .rw[DE A];have:=(r.keep D) k A x j;rw[a5.o,a5.b]at this;exact this
  .rw[qg,zd (by rw[g.wl];omega)]at j;cases j
 .have K:=a9 (by rw[G,X.seed];exact h) i7;rw[K,f];rfl
theorem DG.next{live:av}{ds':aD}{t most:Int}(Z:DG m live ds t most)(K:jx m ds ds'):DG m live ds' t most:=⟨by rw[K.live];exact Z.lv,Z.Nm,Z.tt,Z.c,Z.mo,Z.slots⟩
def okE(e:Int):Prop:=e=0∨e=7∨e=11∨e=12
theorem FZ{live:av}{t most:Int}{e:Qw.bU}(f:e∈m.aA):∀(l:List Nat) (ds:aD) (k:Nat),(∀i∈l,i<e.tries.length)->DG m live ds t most->rN m C live ds []->
  (hO m live t most e l Pow.new ds k).2.1=Pow.new/\okE (hO m live t most e l Pow.new ds k).1/\jx m ds (hO m live t most e l Pow.new ds k).2.2.1/\rN m C live (hO m live t most e l Pow.new ds k).2.2.1 []/\
  ((hO m live t most e l Pow.new ds k).1=0->∀i∈l,ky m live (hO m live t most e l Pow.new ds k).2.2.1 t e i)/\
  ((∀i∈l,ky m live ds t e i)->hO m live t most e l Pow.new ds k=(0,Pow.new,ds,k))
 |[],ds,k,_,_,Q=>⟨i5,.inl i5,.refl _,Q,λ_ i r=>(by cases r),λ_=>rfl⟩
 |i::l,ds,k,hl,Z,Q=>by
  obtain⟨c,a2,a3,a4,a5,d,n⟩:=Tu Z Q f (hl i qQ);unfold hO;obtain⟨b,p⟩:=z6 (dW m live t most Pow.new ds e i)
  rw[<-p]at c a2 a3 a4 a5 d n⊢;by_cases h0:b.1=0
  rotate_left
  .rw[g0 h0];exact⟨c,a2,a3,a5,λh=>absurd h h0,λh=>absurd j1 h0⟩
  rw[g9 λh=>h h0,c];obtain⟨q,o,c3,g,s,u⟩:=FZ f l b.2.2.1 (k+b.2.2.2) (λj a=>hl j (qC _ a)) (Z.next a3) a5;refine⟨q,o,a3.trans c3,g,λh j a=>?_,λh=>?_⟩
  .rcases qX.1 a with rfl|a
   .exact(d h0).keep c3
   grind
  grind
theorem Ks{live:av}{t most:Int}:∀(l:List Qw.bU) (ds:aD) (k:Nat),(∀e∈l,e∈m.aA)->DG m live ds t most->rN m C live ds []->
  (lr m live t most l Pow.new ds k).2.1=Pow.new/\okE (lr m live t most l Pow.new ds k).1/\jx m ds (lr m live t most l Pow.new ds k).2.2.1/\rN m C live (lr m live t most l Pow.new ds k).2.2.1 []/\
  ((lr m live t most l Pow.new ds k).1=0->∀e∈l,∀i<e.tries.length,ky m live (lr m live t most l Pow.new ds k).2.2.1 t e i)/\
  ((∀e∈l,∀i<e.tries.length,ky m live ds t e i)->lr m live t most l Pow.new ds k=(0,Pow.new,ds,k))
 |[],ds,k,_,_,Q=>⟨i5,.inl i5,.refl _,Q,λ_ i a=>u5,λ_=>rfl⟩
 |e::l,ds,k,hl,Z,Q=>by
  obtain⟨f,a2,a3,a5,d,n⟩:=FZ (hl e qQ) (qn e.tries.length) ds k (λi a=>qK.1 a) Z Q;unfold lr;obtain⟨b,p⟩:=z6 (hO m live t most e (qn e.tries.length) Pow.new ds k)
  rw[<-p]at f a2 a3 a5 d n⊢;by_cases h0:b.1=0
  rotate_left
  .grind
  rw[g9 λh=>h h0,f];obtain⟨q,o,c3,g,r,s⟩:=Ks l b.2.2.1 b.2.2.2 (λj c=>hl j (qC _ c)) (Z.next a3) a5;refine⟨q,o,a3.trans c3,g,λh j c=>?_,λh=>?_⟩
  .rcases qX.1 c with rfl|c
   .exactλi a=>(d h0 i (qK.2 a)).keep c3
   grind
  grind
theorem Xq{live:av}{t most:Int}(Z:DG m live ds t most)(S:eU m C ds)(g:∀k d,aT ds k=dB d->d.l.length<=d.room/\d.room<=512)(v:∀k d,aT ds k=dB d->d.wait=0):
  (fR m 0 Pow.new ds t most).2.2.1=Pow.new/\okE (fR m 0 Pow.new ds t most).2.1/\jx m ds (fR m 0 Pow.new ds t most).2.2.2/\eU m C (fR m 0 Pow.new ds t most).2.2.2/\
  (∀k d,aT (fR m 0 Pow.new ds t most).2.2.2 k=dB d->d.l.length<=d.room/\d.wait=0)/\
  ((fR m 0 Pow.new ds t most).2.1=0->rN m C live (fR m 0 Pow.new ds t most).2.2.2 []/\∀e∈m.aA,∀i<e.tries.length,ky m live (fR m 0 Pow.new ds t most).2.2.2 t e i)/\
  ((∀k∈live,∀d,aT ds k=dB d->Tidy m d)->(∀e∈m.aA,∀i<e.tries.length,ky m live ds t e i)->(fR m 0 Pow.new ds t most).1=0/\(fR m 0 Pow.new ds t most).2.1=0):=by
 have j:∀k∈live,∃d,aT ds k=dB d/\d.lost=eX:=λk f=>(ge (by rw[<-Z.lv];exact f)).2;have p:live.Nodup:=by rw[Z.lv];exact nG (mu S.may)
 obtain⟨r,a2,a3,a4,a5,x,y⟩:=DF p S j λk d a=>⟨(g k d a).1,v k d a⟩
 have K:=Z.tt;have D:=Z.c;have B:=Z.mo;have I:fR m 0 Pow.new ds t most=(let c:=dU m live Pow.new ds;if c.1≠0 then(0,c.1,c.2.1,c.2.2)else(let q:=lr m live t most m.aA c.2.1 c.2.2 0;(q.2.2.2,q.1,q.2.1,q.2.2.1))):=by unfold fR;rw[<-Z.lv,g9 i7,g9 i6,g9 D]
 rw[I]
 try dsimp only
 obtain⟨c,u⟩:=z6 (dU m live Pow.new ds)
 rw[<-u]at r a2 a3 a4 a5 x y⊢;have b:∀k d,aT c.2.2 k=dB d->d.l.length<=d.room/\d.room<=512:=λk d a=>by
  refine⟨(a5 k d a).1,?_⟩;cases h:aT ds k with
  |none=>rw[a4.no k h]at a;cases a
  |some d0=>
   obtain⟨z,e,s⟩:=a4.at_ k d0 h;rw[a]at e;injection e with e;rw[e,s.room];exact(g k d0 h).2
 by_cases h0:c.1=0
 rotate_left
 .rw[g0 h0];refine⟨r,a2.elim (λh=>absurd h h0) λh=>.inr (.inl h),a4,a3,a5,λh=>absurd h h0,λh _=>absurd (x λk d a f=>?_) h0⟩;have:=h k f d a;exact qM this.keep this.room
 rw[g9 λh=>h h0,r];have Q:rN m C live c.2.2 []:=⟨a3,λk f=>by
  obtain⟨d,a,H⟩:=j k f;obtain⟨z,e,s⟩:=a4.at_ k d a;exact⟨z,e,by rw[s.lost];exact H⟩,λk d a=>.inl (a5 k d a).2,λk f d a=>y h0 k f d a,b⟩
 obtain⟨J,b2,F,o,G,E⟩:=Ks m.aA c.2.2 0 (λe n=>n) (Z.next a4) Q;refine⟨J,b2,a4.trans F,o.sto,λk d a=>⟨(o.rm k d a).1,?_⟩,λh=>⟨o,λe n i w=>G h e n i w⟩,λ_ h=>?_⟩
 .rcases o.wt k d a with h|h
  .exact h
  .cases h
 .have A:=E λe n i w=>(h e n i w).keep a4;rw[A];exact⟨i5,i5⟩
end
theorem LC{a:Nat}:∀{l:ct},(∀x∈l,i4 x=a)->i4 l.flatten=i4 l*a
 |[],_=>js
 |x::l,h=>by
  rw[List.flatten_cons,qu,h x qQ,LC λy b=>h y (qC _ b),q8,zW];omega
theorem Xr(p:Pm)(l:Sl)(c:ct)(n:Int)(h:f9)(P:fm h l 1 aB c)(hn:n<=2^20)(ab:i4 c<=2^10):
  ai kg 104 #[ir p,l,xU ka n] h λv h'=>∃(r:Sl) (b:Bool),v=.tuple #[r,xY b]/\Sp h h' [EA (cG 1 aB) r (om p c n)]:=by
 refine ts Tryz.func104 ?_ (xc (x6 [] [(6,8),(11,26)] (xc (x0 [(8,cE),(28,aR)] [(6,9),(10,11),(28,41)])))) (args:=[p,l,(n:Int)]);have m:=P.len;refine(Sp.refl h).boxed λJ Z I=>?_;have f:∀{h':f9},Sp h h' [ak J 25 [xU ka p.1,xU ka p.2.1,xU ka p.2.2]]->om p c n=[]->∃(r:Sl) (b:Bool),(.tuple #[xV eH 0 0,xY eX]:Value)=.tuple #[r,xY b]/\Sp h h' [EA (cG 1 aB) r (om p c n)]:=λH' he=>by
  rw[he];exact⟨⟨eH,0,0⟩,eX,i5,(((H'.nil 5 1 aB).bO [1]).AP 0 i5 λ_=>rfl)⟩
 refine aJ ⟨p,(I.box 0 i5).aE _ i5,(eN p Z).x8 λT R2=>?_⟩;have A:=I.up R2.ac;refine⟨_,i5,aX (λe=>f A (by unfold om;rw[g9 (by rintro⟨h,_⟩;rw[e]at h;cases h)])) λe1=>ae (λe=>f A (by unfold om;rw[g9 (by rintro⟨_,h,_⟩;omega)])) λe2=>?_⟩;have D:bB p=eS:=by simpa using e1
 refine⟨p,(A.box 0 i5).aE _ i5,(uG p n T).x8 λh3 U=>?_⟩;have L:=A.up U.ac;refine⟨_,i5,bH (λe=>f L (by unfold om;rw[g9 (by rintro⟨_,_,h,_⟩;rw[m]at e;exact e h)])) λO=>?_⟩;have E:(i4 c:Int)=countP p n:=by rw[m]at O;exact O
 obtain⟨s1,s2,s3⟩:=lU D;refine an (λt:Sl×Nat=>(t.1,(t.2:Int))) (λt h'=>t.2<=i4 c/\(∀x∈c.take t.2,i4 x=fe p)/\Sp h h' [ak J 25 [xU ka p.1,xU ka p.2.1,xU ka p.2.2],aq 5 t.1 1 aB (c.take t.2).flatten]) (λt=>i4 c-t.2) (⟨eH,0,0⟩,0) i5 ⟨js,js,L.nil 5 1 aB⟩ ?_;rintro⟨o,i⟩ R ⟨Q,a,w⟩;dsimp only at Q a w⊢;refine ae (λe=>?_) λe=>?_
 .have g:i<i4 c:=by have X:(i:Int)<(l.len:Int):=e;omega
  refine(P.up w.ac).get i i5 g λr K=>⟨p,(w.box 0 i5).aE _ i5,(Fi p R D).x8 λh5 N=>?_⟩;have z:=w.up N.ac;have y:=K.len;refine⟨_,i5,bH (λB=>?_) λB=>?_⟩
  .refine f (z.bO [0]) ?_;unfold om;rw[g9];rintro⟨_,_,_,h⟩;have:=i0 (qS.1 h _ (qe g));exact B (by rw[y,this])
  .have H:c[i].length=fe p:=by rw[y]at B;exact vi.1 B
   have u:=LC a;rw[List.length_take_of_le Q]at u;have hb:i*fe p<=2^10*2^10:=zK i6 i6;refine z.append ag 1 i5 gm ⟨_,_,i5,i5⟩ i5 i7 (λ_=>rfl) (Seq.up K N.ac) ib i6 λS h6 V=>?_;refine⟨(S,i+1),j0,⟨i9,?_,?_⟩,i9⟩
   .try dsimp only
    intro x s;rw[aG _ _ g]at s;rcases qt.1 s with s|s
    .exact a x s
    .rw[qw.1 s];exact H
   .try dsimp only
    rw[aG _ _ g,List.flatten_append];simpa using V
 .rw[qh (by have X:¬(i:Int)<(l.len:Int):=e;omega)]at a w;have u:=LC a;have j:=w.own 1 i5;have G:=j.len;obtain⟨k,Y⟩:∃k:Nat,n=k:=⟨n.toNat,i6⟩
  subst Y;have d:=Ho D k;have F:(countP p (k:Int)).toNat=i4 c:=i6
  rw[F,<-u,<-G]at d;have W:om p c (k:Int)=c.flatten.take k:=by unfold om;rw[g0 ⟨D,i6,E,qS.2 λx s=>hU (a x s)⟩,qj]
  refine VL ag gm k i5 i5 (qM d j.cap) ?_;refine⟨⟨o.ptr,k,k⟩,eS,i5,?_⟩;rw[W];have z:=(w.bO [1]).AP 0 i5 λ_=>rfl;refine z.fN 0 i5 λq hq=>?_;have M:=Seq.take hq k i6;exact⟨M.1,M.2⟩
variable {B:aw} {h0 h:f9} {As:List HP} {a:Addr} {offs:Int} {da:List bL} {w:Pow}
section
variable {pw:Addr}
theorem Tv(x:bw)(l:bh m=eS)(H:aa B h0 h (bc bi a pw (aV x) offs da w ds::bJ x m::As)):
  ai kg 101 #[xW (dB a)] h λv h'=>v=xY (jc m ds)/\Sp h h' []:=by
 refine ts Tryz.func101 ?_;have D:=gI l;have u:=gy l;refine(Sp.refl h).boxed λo O j=>?_;have p:=H.up j.ac;refine⟨dB a,(j.box 0 i5).cell0 i5,(dt x m (p.at 1 i5) D p).y0 λI J y=>?_⟩;have e:=j.comp y;have L:i4 (aK ds m.drives)<=64:=qM (qE _ _) u;refine⟨I,i5,(Fs 161 #[] #[xW (dB o)] (mM m ds) I (aK ds m.drives) J k8 (y.seq 0 i5 λ_=>rfl) i6 ?_).mono ?_⟩
 .intro k K h3 f;have g:=p.up (y.up f.ac).ac;have i:bN h3 o 29 [xW (dB a)]:=(e.up f.ac).box 0 i5;obtain⟨ok,G⟩:=aa.cj g;obtain⟨t,d,q,_⟩:=ge K;have F:=gB l k t;refine ts Tryz.func161 ?_ (args:=[(k:Int),o]);obtain⟨n,rfl⟩:∃n:Nat,k=n:=⟨k.toNat,i6⟩
  have A:n<i4 da:=o8
  have M:cellOf h3 ((a.add 10).add ((n:Int).toNat*1))=dB (.pointer da[n]):=by rw[qj,zG];refine G.um 10 n ?_;rw[px ok.l8,qc A];rfl
  have r:gc da (n:Int)=da[n]:=by unfold gc;rw[g0 i6,qj,qc A];rfl
  obtain⟨b,s,P,c,_⟩:=nI q g;refine⟨dB a,i.cell0 i5,a,i5,⟨i6,i6⟩,da[n],M,dB a,i.cell0 i5,a,i5,x,G.aE _ i5,?_⟩;rw[<-r,c];refine(FF x m q c (g.at 1 i5) D g).x8 λN E=>?_;have z:=(i.ac E.ac i.lt).cell0 i5;refine⟨_,i5,⟨z,z,A0⟩,?_,E⟩;unfold mM;rw[q]
 .rintro _ h3 ⟨rfl,f⟩;exact⟨_,i5,i5,.zip (e.up f.ac).ac⟩
theorem Uv{name:ByteArray}{l:List Qw.bU}{i:Int}(h:VX (cJ name) l i):(i<0/\l.find? (cJ name)=eH)∨∃(n:Nat) (b:n<i4 l),i=n/\l.find? (cJ name)=dB l[n]:=by
 rcases h with⟨rfl,h⟩|⟨n,b,rfl,h1,h2⟩
 .exact .inl ⟨i7,w4.2 λe a=>wi.1 h e a⟩
 .refine .inr ⟨n,b,i5,List.find?_eq_some_iff_append.2 ⟨h1,l.take n,l.drop (n+1),?_,λe a=>?_⟩⟩
  .rw[<-List.drop_eq_getElem_cons b,List.take_append_drop]
  .have:=wi.1 h2 e a;simpa using this
theorem adw(x:bw)(name:ByteArray)(M:bh m=eS)(G:∀k d,aT ds k=dB d->d.l.length<=512)(H:aa B h0 h (bc bi a pw (aV x) offs da w ds::bJ x m::As)):
  ai kg 40 #[xW (dB a),xX name] h λv h'=>∃r:Sl,v=.tuple #[r,xU ka (iI m offs w ds name).2]/\Sp h h' [EA (cG 1 aB) r (iI m offs w ds name).1]:=by
 refine ts Tryz.func40 ?_ (xc (xc (xc (xc (xc (xc (xc (u9 (xc (v7 (ws [(8,cE),(37,aR)] [(4,6),(8,14),(37,76)] (xc (xc (u9 (v7 (xc (x6 [(11,cE)] [(11,12),(42,54)] (x6 [(12,cE),(13,aR)] [(12,14),(54,69)] v6)))) v6)))))) v6)))))))) [(13,(.l [0,1,2,4,5,6,7,8,9,10,3,11,12])),(14,(.l [0,1,2,3,4,5,6,7,8,10,9,11,12,13,14,15,16]))];have hz:=gI M;have ah:=gy M;have al:(aK ds m.drives).length<=64:=qM (qE _ _) ah;have f:∀{h':f9} (e:Int),Sp h h' []->iI m offs w ds name=([],e)->∃r:Sl,(.tuple #[xV eH 0 0,xU ka e]:Value)=.tuple #[r,xU ka (iI m offs w ds name).2]/\Sp h h' [EA (cG 1 aB) r (iI m offs w ds name).1]:=λe R he=>by
  rw[he];exact⟨⟨eH,0,0⟩,i5,(R.nil 5 1 aB).AP 0 i5 λ_=>rfl⟩
 refine(py H).mono ?_;rintro _ h1 ⟨rfl,rfl⟩;refine⟨_,i5,aP (λe=>f 14 (Sp.refl _) (by unfold iI;rw[g0 e])) λe1=>?_⟩;refine(find_spec x m name (H.at 1 i5) hz H).mono ?_;rintro _ h2 ⟨⟨i,rfl,hi⟩,R2⟩;have H2:=H.up R2.ac;refine⟨i,i5,?_⟩;rcases Uv hi with⟨hneg,hf⟩|⟨n,hn,rfl,hf⟩
 .exact ae (λ_=>f 5 R2 (by unfold iI;rw[g9 k9,hf])) λe=>absurd hneg e
 refine ae (λe=>absurd e (xL.2 (zP n))) λ_=>?_;obtain⟨E,hE⟩:=z6 (m.aA[n])
 have a1:E∈m.aA:=by rw[hE];exact qe hn
 have ep:iI m offs w ds name=BQ m ds E:=by unfold iI;rw[g9 k9,hf,hE]
 rw[ep]at f⊢;refine(Tv x M H2).x8 λh3 R3=>?_;have H3:=H2.up R3.ac;have L:=R2.up R3.ac;refine⟨_,i5,aX (λe=>f 11 L (by unfold BQ;rw[g0 e])) λY=>?_⟩;have Y:jc m ds=eS:=by simpa using Y
 have V:=(gb m E).1 (((bG m).1 M).2.2.2.2.1 E a1);have a7:E.tries.length<=8:=by have:=mA V.2.2.1.2;omega
 have ad:=((dl m).1 ((bG m).1 M).1).2.2.1;have ar:=(aa.cj H3).2;have am:cN h1 x m:=H.at 1 i5;obtain⟨ys,F⟩:=bM.fix am.aA;have a5:=F.2.1;have s:=Fix.row F hn;obtain⟨xe,T⟩:=z6 (ys[n]'i6)
 rw[<-hE,<-T]at s;refine⟨a,i5,x.2.2.2.2.2.2.2,ar.cell i5,(Seq.up F.1 L.ac).dO (g:=bW) n i5 i6 xe (by rw[T]) ?_⟩;refine(Sp.refl h3).alloc ag i5 λa8 h4 Q4=>?_;refine Q4.storeAll ag 0 i5 i5 (bW xe) i5 i5 i5 i5 λh5 Q5=>?_;have R5:=L.comp Q5;have O:Rd h1 xe.2.2.2 1 az E.tries:=s.2;have a2:=O.len;have eo:xe.2.1=E.object:=s.1.2.1;have el:xe.2.2.1=E.length:=s.1.2.2;have R5:=R5.ww 34 5 1 aB;refine⟨xe.2.2.2,(Q5.box 0 i5).cell i5,?_⟩;refine an (λt:Sl×Nat=>(t.1,(t.2:Int))) (λt h'=>t.2<=E.tries.length/\(∀j,j<t.2->(jw m ds E.object E.tries j).2=0)/\Sp h1 h' [gu t.1 ((qn t.2).map λj=>(jw m ds E.object E.tries j).1),ak a8 51 (bW xe)]) (λt=>E.tries.length-t.2) (⟨eH,0,0⟩,0) i5 ⟨js,λj u=>absurd u (Nat.not_lt_zero _),R5⟩ ?_;rintro⟨o,k⟩ h6 ⟨hk,I,y⟩;dsimp only at hk I y⊢;have H6:=H.up y.ac;have S:=(aa.cj H6).2;have Q:cN h6 x m:=H6.at 1 i5;have cp:∀{h':f9},bN h' a 75 (cU (aV x) pw offs da)->bt h' (a.add 2) 0 [xU ka m.p.1,xU ka m.p.2.1,xU ka m.p.2.2]:=λ{h'} hb=>by
  rw[<-Q.p];exact⟨kt,kt,kt,A0⟩
 refine ae (λe=>?_) λe=>?_
 .have A:k<E.tries.length:=by have e':(k:Int)<(xe.2.2.2.len:Int):=e;omega
  refine(Seq.up O y.ac).bm k i5 A E.tries[k] i5 ?_;refine aJ ⟨a,i5,x,S.aE _ i5,xe.2.1,(y.box 1 i5).cell i5,(dt x m Q hz H6).y0 λlv h7 R7=>?_⟩;have H7:=H6.up R7.ac;have q:=(aa.cj H7).2;have P:=y.up R7.ac;refine⟨lv,i5,⟨(P.box 1 i5).cell i5,q.cell0 i5,q.cell i5,q.cell i5,q.cell i5,q.cell i5,q.cell i5,q.cell i5,q.cell i5,A0⟩,?_⟩;rw[eo];refine(Ay x m lv (aK ds m.drives) E.object k (H7.at 1 rfl) hz (R7.seq 0 rfl λ_=>rfl) i6 (λj u=>by obtain⟨_,d,hd,_⟩:=ge u;exact⟨d,hd⟩) H7).mono ?_;rintro _ h8 ⟨r,ss,rfl,R8⟩;have H8:=H7.up R8.ac;have U:=(aa.cj H8).2;have z:=P.up R8.ac;refine⟨r,i5,A0,aJ ⟨a,i5,m.p,cp U,xe.2.1,(z.box 1 i5).cell i5,(rp xe.2.1 k E.tries[k] h8).mono ?_⟩⟩;rintro _ Z ⟨rfl,rfl⟩;obtain⟨c1,c2,c3,_⟩:=cp U;have K:Fix iC 2 piv Z (λb=>b<Z.size) r ss (ff m ds (aK ds m.drives) E.object k):=R8.at 0 i5;have ay:eF GH Z r (ff m ds (aK ds m.drives) E.object k):=⟨ss,K.1,K.2.1,K.2.2⟩
  have a4:(ff m ds (aK ds m.drives) E.object k).length<=64*512:=by unfold ff;refine qM (Cr (c:=512) λj u=>?_) (zi _ al);obtain⟨_,d,hd,_⟩:=ge u;unfold ik;rw[hd];have h1:=Dp m E.object k d.l;have h2:=G j d hd;show(Ax m E.object k d.l).length<=512;omega
  rw[eo];refine⟨_,i5,⟨c1,c2,c3,A0⟩,(Kc m.p (cg E.object k E.tries[k]) r _ Z ay).y0 λax a6 D=>?_⟩;have eb:ma m.p (cg E.object k E.tries[k]) (ff m ds (aK ds m.drives) E.object k)=jw m ds E.object E.tries k:=by unfold jw;rw[gh 0 A]
  rw[eb]at D⊢;have N:=z.up D.ac;refine⟨(ax,(jw m ds E.object E.tries k).2),i5,A0,bH (λe4=>f 11 (.zip N.ac) ?_) λe4=>?_⟩
  .unfold BQ;rw[g9 (by rw[Y];decide),g9];intro W;exact e4 (i0 (qS.1 W k (qK.2 A)))
  .have ap:=(z.comp D).aI 3 [0,2,1];refine aa.CM ag ap fh jj λo' a9 a0=>?_;refine⟨(o',k+1),j0,⟨i9,λj u=>?_,?_⟩,i9⟩
   .rcases qZ.1 u with u|rfl
    .exact I j u
    .simpa using e4
   .try dsimp only
    rw[zt,qP];exact a0
 .have ab:k=E.tries.length:=by have e':¬(k:Int)<(xe.2.2.2.len:Int):=e;omega
  subst ab;refine⟨a,i5,m.p,cp S,xe.2.2.1,(y.box 1 i5).cell i5,?_⟩;rw[el];have J:E.length<=2^20:=by obtain⟨⟨k1,k2⟩,_,z1,z2⟩:=(bK m.p).1 ad;have:m.p.1*m.p.2.2<=16*24:=Int.mul_le_mul k2 z2 i6 i6;have:=V.2.2.1.2;omega
  refine(Xr m.p o _ E.length h6 (y.Cb λ_=>rfl) J jj).mono ?_;rintro _ a3 ⟨X,b,rfl,ao⟩;have eg:BQ m ds E=(om m.p ((qn E.tries.length).map λk=>(jw m ds E.object E.tries k).1) E.length,0):=by unfold BQ;rw[g9 (by rw[Y];decide),g0 (qS.2 λj u=>hU (I j (qK.1 u)))]
  rw[eg];exact⟨(X,b),i5,A0,X,i5,((y.comp ao).bO [2])⟩
end
def LD(m:au)(ds:aD)(o k:Int):Nat:=match aT ds k with|some d=>(dJ m d.l).countP (λr=>decide (r.object=o))|none=>0
def sD(m:au)(ds:aD)(live:av)(o:Int):Nat:=(live.map (LD m ds o)).sum
def gZ(m:au)(offs:Int)(w:Pow)(ds:aD)(name:ByteArray):(Int×Int×Int)×Int:=
 if cF w offs=eS then((0,0,0),14)else match m.aA.find? (cJ name)with
 |none=>((0,0,0),5)
 |some e=>((e.length,(e.tries.length:Int),(sD m ds (aK ds m.drives) e.object:Int)),0)
section
variable {pw:Addr}
abbrev Ga(s:Int×Int×Int)(t:Sl):aW:=[xU ka s.1,xU ka s.2.1,xU ka s.2.2,t]
theorem agk(m:au)(ds:aD)(o k:Int)(a:∀k d,aT ds k=dB d->i4 d.l<=512):LD m ds o k<=512:=by
 unfold LD;cases hd:aT ds k with
 |none=>exact Nat.zero_le _
 |some d=>exact qM xj (qM (nC m d.l) (a k d hd))
theorem Uw(m:au)(ds:aD)(o:Int)(a:∀k d,aT ds k=dB d->i4 d.l<=512):∀l:av,sD m ds l o<=i4 l*512
 |[]=>by simp[sD]
 |k::l=>by
  have:=Uw m ds o a l;have:=agk m ds o k a;unfold sD at*;rw[zS,List.sum_cons,q8,zW];omega
theorem aaN(m:au)(ds:aD)(o:Int)(l:av)(i:Nat)(a:i<i4 l):sD m ds (l.take (i+1)) o=sD m ds (l.take i) o+LD m ds o l[i]:=by unfold sD;rw[zl a,qP,List.sum_append];simp
theorem aaO(x:bw)(name:ByteArray)(hm:bh m=eS)(u:∀k d,aT ds k=dB d->d.l.length<=512)(H:aa B h0 h (bc bi a pw (aV x) offs da w ds::bJ x m::As)):
  ai kg 44 #[xW (dB a),xX name] h λv h'=>∃t:Sl,v=.tuple #[xZ #[xU ka (gZ m offs w ds name).1.1,xU ka (gZ m offs w ds name).1.2.1,xU ka (gZ m offs w ds name).1.2.2,t],xU ka (gZ m offs w ds name).2]/\Sp h h' []:=by
 refine ts Tryz.func44 ?_ (xc (xc (xc (xc (xc (x6 [(8,(.sc .adr))] [(8,9),(30,39)] (u9 (xc (v7 (ws [(42,aR)] [(10,11),(12,13),(42,73)] (xc (xc (u9 (v7 (xc (xc (v7 (ws [(58,aR)] [(12,13),(58,72)] v6))))) v6)))))) v6))))))) [(7,(.y [0,1,2,3,4,5,6] (.l [7,8,9,10]) (.l [9,7,8,10]))),(11,(.l [0,1,2,3,4,5,6,7,8,9,12,10,11]))];have hz:=gI hm;have a8:=gy hm;have a9:(aK ds m.drives).length<=64:=qM (qE _ _) a8;refine(Sp.refl h).alloc ag i5 λa1 h1 R1=>?_;have L:=H.up R1.ac;refine(py L).x7 ⟨_,i5,aP (λe=>?_) λe1=>?_⟩
 .refine R1.storeAll ag 0 i5 i5 (Ga (0,0,0) ⟨eH,0,0⟩) i5 i5 i5 i5 λh3 R3=>?_;refine⟨(0,0,0,⟨eH,0,0⟩),(R3.box 0 i5).aE _ i5,⟨eH,0,0⟩,?_,R3.bO []⟩;unfold gZ;rw[g0 e]
 refine(find_spec x m name (L.at 1 i5) hz L).mono ?_;rintro _ h4 ⟨⟨i,rfl,hi⟩,R4⟩;have A:=R1.up R4.ac;have H4:=L.up R4.ac;refine⟨i,i5,?_⟩;rcases Uv hi with⟨hneg,hf⟩|⟨n,hn,rfl,hf⟩
 .refine ae (λ_=>?_) λe=>absurd hneg e;refine A.storeAll ag 0 i5 i5 (Ga (0,0,0) ⟨eH,0,0⟩) i5 i5 i5 i5 λh3 R3=>?_;refine⟨(0,0,0,⟨eH,0,0⟩),(R3.box 0 i5).aE _ i5,⟨eH,0,0⟩,?_,R3.bO []⟩;unfold gZ;rw[g9 k9,hf]
 refine ae (λe=>absurd e (xL.2 (zP n))) λ_=>?_;obtain⟨E,hE⟩:=z6 (m.aA[n])
 have b1:E∈m.aA:=by rw[hE];exact qe hn
 have ep:gZ m offs w ds name=((E.length,(E.tries.length:Int),(sD m ds (aK ds m.drives) E.object:Int)),0):=by unfold gZ;rw[g9 k9,hf,hE]
 rw[ep];have bs:=(gb m E).1 (((bG m).1 hm).2.2.2.2.1 E b1);have dk:E.tries.length<=8:=by have:=mA bs.2.2.1.2;omega
 have a6:=(aa.cj H4).2;have b5:cN h4 x m:=H4.at 1 i5;obtain⟨ys,F⟩:=bM.fix b5.aA;have c6:=F.2.1;have o:=Fix.row F hn;obtain⟨xe,al⟩:=z6 (ys[n]'i6)
 rw[<-hE,<-al]at o;refine⟨a,i5,x.2.2.2.2.2.2.2,a6.cell i5,F.1.dO (g:=bW) n i5 i6 xe (by rw[al]) ?_⟩;refine(Sp.refl h4).alloc ag i5 λN h6 Q6=>?_;refine Q6.storeAll ag 0 i5 i5 (bW xe) i5 i5 i5 i5 λh7 Q7=>?_;obtain⟨W,R7⟩:∃W,Sp h h7 [ak a1 42 W,ak N 51 (bW xe)]/\W.length=4:=⟨_,A.comp Q7,rfl⟩
 obtain⟨R7,z4⟩:=R7;have Q:Rd h4 xe.2.2.2 1 az E.tries:=o.2;have O:=Q.len;have eo:xe.2.1=E.object:=o.1.2.1;have el:xe.2.2.1=E.length:=o.1.2.2;have ad:=Q7.ac;refine bF (λ(s:Addr) h'=>∃t:Sl,Sp h h' [ak a1 42 W,ak N 51 (bW xe),ak s 42 (Ga (E.length,(E.tries.length:Int),0) t)]) ?_ ?_
 .have q:=R7.box 1 i5;refine⟨xe.2.2.1,q.cell i5,xe.2.2.2,q.cell i5,xe.2.2.2,q.cell i5,?_,?_⟩
  .refine(ig xe.2.2.2 E.tries h7 (Q.up ad) i6).y0 λt h8 R8=>?_;have a7:=R7.up R8.ac;refine⟨t,i5,jo R8.ac ⟨q.cell i5,q.cell i5,A0⟩,a7.alloc ag i5 λcp h9 R9=>?_⟩;have a2:=R9.box 1 i5;refine⟨⟨a2.cell i5,a2.cell i5,A0⟩,R9.storeAll ag 2 i5 i5 (Ga (E.length,(E.tries.length:Int),0) t) (by rw[el,O];rfl) i5 i5 i5 λb0 R=>⟨A0,t,R⟩⟩
  .refine(Sp.refl h7).alloc ag i5 λc2 ca a3=>?_;have ay:=R7.comp a3;have f:=ay.box 1 i5;refine⟨⟨f.cell i5,f.cell i5,f.cell i5,A0⟩,?_⟩;refine(ig xe.2.2.2 E.tries ca ((Q.up ad).up a3.ac) i6).y0 λt c5 am=>?_;have ab:=ay.up am.ac;refine⟨t,i5,jo am.ac ⟨f.cell i5,f.cell i5,A0⟩,ab.storeAll ag 2 i5 i5 (Ga (E.length,(E.tries.length:Int),0) t) (by rw[el,O];rfl) i5 i5 i5 λb0 R=>⟨A0,t,R⟩⟩
 rintro ao cr ⟨t,A⟩;have ar:=H.up A.ac;refine(dt x m (ar.at 1 i5) hz ar).y0 λlv dd G=>?_;obtain⟨live,D⟩:=z6 (aK ds m.drives)
 have b9:∀k∈live,k∈m.drives/\∃d,aT ds k=dB d/\d.lost=eX:=λk hk=>ge (by rw[<-D];exact hk);rw[<-D]at G a9⊢;have G:=A.comp G;have c1:=(G.own 3 i5).len;refine⟨lv,i5,?_⟩;refine an (λi:Nat=>(i:Int)) (λi h'=>i<=live.length/\Sp h h' [ak a1 42 W,ak N 51 (bW xe),ak ao 42 (Ga (E.length,(E.tries.length:Int),(sD m ds (live.take i) E.object:Int)) t),aq 3 lv 1 az live]) (λi=>live.length-i) 0 i5 ⟨i6,G⟩ ?_;rintro i X ⟨hi,p⟩
 try dsimp only
 refine ae (λe=>?_) λe=>?_
 .have V:i<live.length:=i6
  refine(p.seq 3 i5 λ_=>rfl).bm i i5 V live[i] i5 ?_;have U:=H.up p.ac;obtain⟨b6,d,hd,_⟩:=b9 live[i] (qe V);have ce:=gB hm _ b6;obtain⟨ok,hb⟩:=aa.cj U;obtain⟨k,hk⟩:∃k:Nat,live[i]=k:=⟨live[i].toNat,i6⟩
  have Z:k<da.length:=o8
  have S:=aaN m ds E.object live i V;rw[hk]at hd S⊢;have cd:cellOf X ((a.add 10).add ((k:Int).toNat*1))=dB (.pointer da[k]):=by rw[qj,zG];refine hb.um 10 k ?_;rw[px ok.l8,qc Z];rfl
  have bq:gc da (k:Int)=da[k]:=by unfold gc;rw[g0 i6,qj,qc Z];rfl
  obtain⟨b,sd,bl,bd,bb,br,b4⟩:=nI hd U;refine⟨a,i5,⟨i6,i6⟩,da[k],cd,a,i5,x,hb.aE _ i5,?_⟩;rw[<-bq,bd];refine(rq b pw d sd bl x m X bb br b4 (U.at 1 i5) hz).mono ?_;rintro _ c7 ⟨r7,yr,rfl,ax⟩;have bk:=qM (nC m d.l) (u _ d hd);have ah:LD m ds E.object k=(dJ m d.l).countP (λr=>decide (r.object=E.object)):=by unfold LD;rw[hd]
  obtain⟨c,T⟩:=z6 (dJ m d.l)
  rw[<-T]at ax bk ah;have I:=p.comp ax;have F4:=I.dZ 4 i5;have c8:=F4.2.1;have cq:=F4.1.len;refine⟨r7,i5,A0,?_⟩;have ap:=Uw m ds E.object u (live.take i);rw[qH,Nat.min_eq_left hi]at ap;obtain⟨P,a5⟩:=z6 (sD m ds (live.take i) E.object)
  rw[<-a5]at I ap S;have cc:i*512<=64*512:=zi _ i6;refine an (λj:Nat=>(j:Int)) (λj h'=>j<=c.length/\Sp h h' [ak a1 42 W,ak N 51 (bW xe),ak ao 42 (Ga (E.length,(E.tries.length:Int),((P+(c.take j).countP (λr=>decide (r.object=E.object)):Nat):Int)) t),aq 3 lv 1 az live,dn fx 8 bZ r7 yr c]) (λj=>c.length-j) 0 i5 ⟨i6,I⟩ ?_;rintro j c9 ⟨hj,J⟩
  try dsimp only
  refine ae (λe2=>?_) λe2=>?_
  .have Y:j<c.length:=i6
   have F5:=J.dZ 4 i5;obtain⟨⟨g1,_⟩,_⟩:=Fix.row F5 Y;have b7:j<yr.length:=i6
   refine F5.1.dO (g:=bZ) j i5 b7 yr[j] i5 ?_;refine J.alloc ag i5 λcs c4 b2=>?_;refine b2.storeAll ag 5 i5 i5 (bZ yr[j]) i5 i5 i5 i5 λcm z=>?_;have cf:(c.take j).countP (λr=>decide (r.object=E.object))<=512:=qM xj ln;have M:(c.take (j+1)).countP (λr=>decide (r.object=E.object))=(c.take j).countP (λr=>decide (r.object=E.object))+(if c[j].object=E.object then 1 else 0):=by rw[zl Y,List.countP_append,List.countP_singleton];simp
   refine⟨yr[j].1,(z.box 5 i5).cell0 i5,xe.2.1,(z.box 1 i5).cell i5,aY (λe3=>?_) λe3=>?_⟩
   .have e4:c[j].object=E.object:=by rw[<-g1,e3,eo]
    rw[g0 e4]at M;refine⟨((P+(c.take j).countP (λr=>decide (r.object=E.object)):Nat):Int),(z.box 2 i5).cell i5,z.storeAt ag 2 i5 i5 (off:=2) i5 i5 i5 js λcl a0=>?_⟩;have ew:qd ka (((P+(c.take j).countP (λr=>decide (r.object=E.object)):Nat):Int)+1)=((P+(c.take j).countP (λr=>decide (r.object=E.object)):Nat):Int)+1:=af _;refine⟨j+1,j4,⟨i6,?_⟩,i6⟩;rw[M];rw[ew]at a0;have K:=a0.bO [0,1,2,3,4];have e5:((P+((c.take j).countP (λr=>decide (r.object=E.object))+1):Nat):Int)=((P+(c.take j).countP (λr=>decide (r.object=E.object)):Nat):Int)+1:=i6
    rw[e5];exact K
   .have e4:¬c[j].object=E.object:=λh=>e3 (by rw[g1,h,eo]);rw[g9 e4,yc]at M;exact⟨j+1,j4,⟨i6,by rw[M];exact z.bO [0,1,2,3,4]⟩,i6⟩
  have b3:j=c.length:=i6
  subst b3;rw[qL,<-ah,<-S]at J;exact⟨i+1,j4,⟨i6,J.bO [0,1,2,3]⟩,i6⟩
 have a4:i=live.length:=i6
 subst a4;rw[qL]at p;refine⟨(E.length,(E.tries.length:Int),(sD m ds live E.object:Int),t),(p.box 2 i5).aE _ i5,?_⟩;refine p.storeAll ag 0 i5 i5 (Ga (E.length,(E.tries.length:Int),(sD m ds live E.object:Int)) t) i5 i5 i5 (by rw[z4];rfl) λcn K=>?_;exact⟨(E.length,(E.tries.length:Int),(sD m ds live E.object:Int),t),(K.box 0 i5).aE _ i5,t,i5,K.bO []⟩
theorem adx(name:ByteArray)(e:bh m=eS)(H:aa B h0 h (bo a pw da offs w ds m::As)):
  ai kg 44 #[xW (dB a),xX name] h λv h'=>∃t:Sl,v=.tuple #[xZ #[xU ka (gZ m offs w ds name).1.1,xU ka (gZ m offs w ds name).1.2.1,xU ka (gZ m offs w ds name).1.2.2,t],xU ka (gZ m offs w ds name).2]/\Sp h h' []:=by
 have c:=(lY H).2;obtain⟨x,f⟩:=fg H;exact aaO x name e (λk d b=>qM (c k d b).1 (c k d b).2.1) f
end
section
variable {C:Int->aL}
def ajC(m:au)(ds:aD):Prop:=∀k d,aT ds k=dB d->∀e b,aT ds e=dB b->∀c∈d.l,∀c'∈b.l,∀r a,dS c=dB r->dS c'=dB a->eu m r=eS->eu m a=eS->aeU r=aeU a->k=e
end
variable {N:Nat} {name:ByteArray} {b:aL}
section
variable {C:Int->aL}
structure aka (m:au) (C:Int->aL) (ds:aD) (N:Nat):Prop where
 inv:Inv m C ds N
 once:ajC m ds
 room:∀k∈m.drives,∃d,aT ds k=dB d/\d.lost=eX/\d.room=400
 four:∀e∈m.aA,e.tries.length<=4
 ids:(m.p.1+m.extra).toNat<=12
theorem tC:m.aA.any (cJ name)=eS↔∃e∈m.aA,e.name=name:=by rw[zT];refine⟨λ⟨e,he,h⟩=>⟨e,he,nW (by unfold cJ at h;grind)⟩,λ⟨e,he,h⟩=>⟨e,he,by unfold cJ;grind⟩⟩
theorem aaP(h:∃e∈m.aA,e.name=name)(a:kW name=eS):dv m 0 Pow.new ds name b=(4,m,Pow.new,ds):=by
 have c:cT m (cF Pow.new 0) ds name b.length=4:=by unfold cT;rw[g9 i7,g9 j1,g0 (tC.2 h)]
 unfold dv
 grind
theorem ady(h:¬∃e∈m.aA,e.name=name):dw m 0 Pow.new ds name=(5,m,Pow.new,ds):=by
 have a:m.aA.any (cJ name)=eX:=by cases hh:m.aA.any (cJ name)with|false=>rfl|true=>exact absurd (tC.1 hh) h
 unfold dw;rw[g9 i7,g0 a]
structure fX (m:au) (C:Int->aL) (rs:List DZ) (M:List Mv) (kvs:List (ByteArray×Sl)):Prop where
 nd:(kvs.map qD).Nodup
 len:kvs.length=m.aA.length
 mem:∀q∈kvs,∃e∈m.aA,e.name=q.1/\∃(j:Nat) (h1:j<rs.length) (h2:j<M.length),q.2=rs[j].2.2.1/\C e.object=M[j].data
 all:∀e∈m.aA,cS e.name kvs≠eH
variable {rs:List DZ} {M:List Mv} {kvs:List (ByteArray×Sl)}
theorem fX.some(H:fX m C rs M kvs){s:Sl}(h:cS name kvs=dB s):∃e∈m.aA,e.name=name/\∃(j:Nat) (a:j<rs.length) (b:j<M.length),s=rs[j].2.2.1/\C e.object=M[j].data:=H.mem _ (Mo h)
theorem fX.put(H:fX m C rs M kvs)(S:eU m C ds)(h:cS name kvs=Option.none){j:Nat}(s:j<i4 rs)(k:j<i4 M){t:av}(w:b=M[j].data){L:Int}:
  fX (dK m ⟨name,m.next,L,t⟩) (jv C m.next b) rs M (sN name rs[j].2.2.1 kvs):=by
 rw[EW _ h];have l:=Jo.1 h;refine⟨?_,?_,λq f=>?_,λe d=>?_⟩
 .rw[qP];refine List.nodup_append.2 ⟨H.nd,js,λa v c g=>?_⟩;obtain⟨p,y,rfl⟩:=qo.1 v;have g:c=name:=tg
  rw[g];exact l p y
 .show _=i4 ((m.aA++[_]).mergeSort sM);rw[List.length_mergeSort,qu,qu,H.len];rfl
 .rcases qt.1 f with f|f
  .obtain⟨e,d,z,r,x,i,n,o⟩:=H.mem q f;refine⟨e,kG.2 (.inl d),z,r,x,i,n,?_⟩;have:=S.old d;unfold jv;rw[g9 i6];exact o
  .rw[qw.1 f];refine⟨_,kG.2 (.inr i5),i5,j,s,k,i5,?_⟩;show jv C m.next b m.next=_;unfold jv;rw[g0 rfl];exact w
 .rw[Mq];rcases kG.1 d with d|rfl
  .cases hg:cS e.name kvs with
   |none=>exact absurd hg (H.all e d)
   |some u=>simp
  .rw[g0 rfl];cases cS (⟨name,m.next,L,t⟩:Qw.bU).name kvs<;>simp
theorem fX.del(H:fX m C rs M kvs)(t:bh m=eS)(h:cS name kvs≠Option.none):fX (AF m (m.aA.findIdx (cJ name))) C rs M (jD name kvs):=by
 obtain⟨s,v⟩:=Option.ne_none_iff_exists'.1 h;obtain⟨y,l,n,_⟩:=H.some v;obtain⟨i,b⟩:=adn (tC.2 ⟨y,l,n⟩);have b:=b i;obtain⟨w,u⟩:=Jq (x:=name) H.nd;have a:=aat m (m.aA.findIdx (cJ name));have f:=((bG m).1 t).2.2.2.2.2.1;refine⟨w,?_,λq p=>?_,λe d=>?_⟩
 .rw[a,List.length_eraseIdx,g0 i];have:=Mp h;have:=H.len;omega
 .obtain⟨e,d,r,rest⟩:=H.mem q (EX p);refine⟨e,?_,r,rest⟩;rw[a];obtain⟨j,g,rfl⟩:=List.mem_iff_getElem.1 d;refine List.mem_eraseIdx_iff_getElem.2 ⟨j,g,λc=>u q p ?_,i5⟩;rw[<-r,<-b];congr 1;exact getElem_congr_idx c
 .have k:e.name≠name:=λo=>by
   rw[a]at d;obtain⟨j,g,c,rfl⟩:=List.mem_eraseIdx_iff_getElem.1 d;rcases Nat.lt_or_gt_of_ne c with hlt|hlt
   .exact nE (q7.1 f _ _ g i hlt) (by rw[o,b])
   .exact nE (q7.1 f _ _ i g hlt) (by rw[o,b])
  rw[Jr k];exact H.all e (GK d)
end
variable {s:Sl} {l:aL} {f:Bool} {n:Int}
structure ajW (B:aw) (h0:f9) (As:List HP) (s:Sl) (l:aL):Prop where
 cap:s.len<=s.cap
 st:St B h0 As λh=>Rd h s 1 aB l
abbrev PgV:=Int×Int×Int×Sl×Sl
def ajD(p:PgV×Pg):Prop:=p.1.1=p.2.seq/\p.1.2.1=p.2.num/\p.1.2.2.1=p.2.many
structure akb (h:f9) (p:PgV×Pg):Prop where
 bears:Rd h p.1.2.2.2.1 1 aB p.2.bears
 cell:Rd h p.1.2.2.2.2 1 aB p.2.cell
 len:i4 p.2.bears<=48
structure akc (ll:ct) (rs:List Sl) (pool:List (Sl×aL)) (p:PgV×Pg):Prop where
 ok:ajD p
 bears:(p.1.2.2.2.1,p.2.bears)∈pool
 len:i4 p.2.bears<=48
 many:p.2.many<=255
 cell:∃k:Nat,rs[k]?=dB p.1.2.2.2.2/\ll[k]?=dB p.2.cell
variable {h':f9} {d:List bw}
variable {α β:Type} {E:jm α β} {e k:Nat} {ll:List β}
section
variable {f:α->aW}
end
def aia(m:au)(i:Nat):Bool:=decide ((i:Int)∈m.drives)
structure Hi (M:Int->au) (m:au) (ds:aD):Prop where
 cur:M m.seq=m
 at_:∀k d,aT ds k=dB d->k∈m.drives
 pg:∀k d,aT ds k=dB d->∀c∈d.l,∀g,mL c=dB g->(1<=g.seq/\g.seq<=m.seq)/\c∈ba (M g.seq)/\k∈(M g.seq).drives
 ok:∀q,1<=q->q<=m.seq->bh (M q)=eS/\(M q).seq=q/\(ba (M q)).length<=2
variable {M:Int->au}
section
variable {n:au}
end
section
variable {n:au} {d:be}
def aiw(l:ct):Nat:=l.countP λc=>(dS c).isSome
theorem Ku(f:ByteArray->Nat)(q:ByteArray->Bool):∀l:List ByteArray,((l.filter q).map f).sum<=(l.map f).sum
 |[]=>qi _
 |x::l=>by
  have h:=Ku f q l
  grind
theorem aaQ{l:List ByteArray}(c:l.Nodup)(h:∀x∈l,x∈oH):(l.map λs=>10+s.size).sum<=70:=by
 haveI:∀a,Decidable (a∈l):=λ_=>Classical.propDecidable _
 have d:oH.Nodup:=j5
 have b:l.Perm (oH.filter λx=>decide (x∈l)):=(List.perm_ext_iff_of_nodup c (d.filter _)).2 λa=>j1
 rw[(b.map λs=>10+s.size).sum_nat];exact qM (Ku _ _ _) j5
theorem Rb:∀{l:List Qw.bU},(∀e∈l,e.tries.length<=4)->(l.flatMap jB).length<=((l.map Qw.bU.name).map λs=>10+s.size).sum
 |[],_=>qi _
 |e::l,h=>by
  have b:=Rb λx a=>h x (qC _ a);rw[List.flatMap_cons,qu,Zz]
  grind
theorem aix(a:bh m=eS)(b:∀k∈m.drives,k<9)(r:∀e∈m.aA,e.name∈oH/\e.length<=3*(m.p.1*m.p.2.2)+1):(ba m).length<=2:=by
 obtain⟨n,t,h3,s,f,g,A⟩:=(bG m).1 a;have y:=(bK m.p).1 ((dl m).1 n).2.2.1;have o:0<m.p.1*m.p.2.2:=Int.mul_pos i6 i6;have l:∀e∈m.aA,e.tries.length<=4:=λe c=>by
  have q:=(gb m e).1 (f e c);have z:=(r e c).2;have v:countP m.p e.length<=4:=by
   unfold countP;split
   .have:(e.length-1)/(m.p.1*m.p.2.2)<4:=Int.ediv_lt_of_lt_mul o i6;omega
   simp
  omega
 have j:(m.aA.map Qw.bU.name).Nodup:=yE.2 (g.imp λh=>nE h);have u:=aaQ j λx c=>j1
 have a2:=Rb l;have a3:=ML a;have a4:m.drives.length<=((qn 9).map λi:Nat=>(i:Int)).length:=pc (mu a) λk d=>by
  have h0:=h3 k d;have w:=b k d;exact qo.2 ⟨k.toNat,qK.2 i6,i6⟩
 rw[qp,List.length_range]at a4;rw[JT];omega
end
structure Wt (z:Prop) (i:Nat) (p:Pm) (m:au) (ds:aD):Prop where
 may:bh m=eS
 len:i4 ds=64
 pe:m.p=p
 dr:∀k∈m.drives,k<9
 hi:∃M,Hi M m ds
 slim:z->∀k d,aT ds k=dB d->d.lost=eX->aiw d.l+1<=i4 d.l/\aiw d.l+2<=d.room
 seq:m.seq<=i+1
 ent:∀e∈m.aA,e.name∈oH/\e.length<=3*(p.1*p.2.2)+1
variable {z:Prop} {i:Nat}
theorem agl(i:bh m=eS){slot:Int}(h0:0<=slot/\slot<64)(b:slot∉m.drives)(n:¬m.seq>=2147483647):bh (sv m (gC (m.drives++[slot])))=eS:=by
 obtain⟨f,l,g,a,c,e,d⟩:=(bG m).1 i;refine(bG _).2 ⟨?_,Xo l b,λk j=>?_,a,c,e,d⟩
 .rw[dl]at f⊢;exact⟨by show 1<=m.seq+1/\m.seq+1<=2147483647;omega,f.2⟩
 .rcases qt.1 ((AQ _ _).1 j)with h|h
  .exact g k h
  .rw[qw.1 h];omega
theorem Ux{slot:Int}(c:0<=slot/\slot<64)(b:i4 ds=64)(o:Option be)(k:Int):aT (ds.set slot.toNat o) k=if k=slot then o else aT ds k:=by
 unfold aT;by_cases a:0<=k/\k<64
 .rw[g0 a,qV];by_cases e:k=slot
  .subst e;rw[g0 i5,g0 i5,g0 i6];rfl
  .rw[g9 i6,g9 e,g0 a]
 .rw[g9 a,g9 i6,g9 a]
structure Tn (p:Pm) (m:au) (C:Int->aL) (ds:aD):Prop where
 sto:eU m C ds
 dr:∀k∈m.drives,k<9
 pe:m.p=p
 wt:∀k d,aT ds k=dB d->d.wait=0
section
variable {C:Int->aL}
theorem Tn.lK(W:Tn p m C ds){k:Int}{d:be}(c:aT ds k=dB d){j:Nat}(e:j<i4 d.l)(f:gg d.l[j]≠eH){a b:Int}(g:0<=a/\a<=60):Tn p m C (ck ds k (d.lK j a b)):=
 ⟨W.sto.Xm c (Ts (W.sto.cells k d c) e f g),W.dr,W.pe,Ut W.sto.len c W.wt (by rw[Xn];exact W.wt _ _ c)⟩
theorem Tn.Rc(W:Tn p m C ds){n:au}(j:bh n=eS)(g:n.seq=m.seq+1)(c:n.p=m.p)(e:m.next<=n.next)(a:∀x∈n.aA,x∈m.aA)(b:∀k∈n.drives,k<9):
  cQ m 0 Pow.new ds n=(7,m,Pow.new,ds)∨∃ds',cQ m 0 Pow.new ds n=(0,n,Pow.new,ds')/\Tn p n C ds':=by
 rcases WT (offs:=0) (w:=Pow.new) iF W.sto (rfl) j g c e a with⟨_,h⟩|⟨⟨hl,_⟩,ds',h,S,hat⟩
 .grind
 .exact .inr ⟨ds',h,S,b,c.trans W.pe,aaD (f:=λk d=>if k∈aK ds n.drives then fJ (ba n) (cY m d (ba n).length)else d) hat W.wt λk d i=>by
   split
   .exact GM (IE i)
   grind⟩
theorem Tn.Eu(W:Tn p m C ds)(slot:Int):Tn p m C (oq m 0 Pow.new ds slot).2:=by
 unfold oq;rw[g9 i7];split
 .exact W
 .cases hd:aT ds slot with
  |none=>exact W
  |some d=>exact⟨W.sto.Xm hd λc a=>u5,W.dr,W.pe,Ut W.sto.len hd W.wt i5⟩
theorem Tn.add(W:Tn p m C ds){slot:Int}(s:0<=slot/\slot<9)(cells:Int):∃e g ds',jL m 0 Pow.new ds slot cells=(e,g,Pow.new,ds')/\Tn p g C ds'/\g.aA=m.aA:=by
 unfold jL;rw[g9 i7];split
 .exact⟨1,m,ds,i5,W,i5⟩
 split
 .exact⟨4,m,ds,i5,W,i5⟩
 rename_i f;split
 .exact⟨7,m,ds,i5,W,i5⟩
 rename_i r;have b:∀{o k},aT (ds.set slot.toNat o) k=if k=slot then o else aT ds k:=λ{o k}=>Ux (slot:=slot) i6 W.sto.len o k
 have c:∀{o},(∀d,o=dB d->d.l=[]/\d.wait=0)->Tn p m C (ds.set slot.toNat o):=λ{o} ho=>by
  refine⟨⟨W.sto.may,by simp[W.sto.len],λk d a=>?_,W.sto.ents⟩,W.dr,W.pe,λk d a=>?_⟩
  .rw[b]at a;split at a
   .grind
   .exact W.sto.cells k d a
  .rw[b]at a;split at a
   .exact(ho d a).2
   .exact W.wt k d a
 have j:=c (o:=dB (be.new cells.toNat)) λd a=>by injection a with a;subst a;exact⟨i5,i5⟩
 rcases j.Rc (n:=sv m (gC (m.drives++[slot]))) (agl W.sto.may i6 f r) rfl rfl (vq _) (λx i=>i) (λk q=>by
  rcases qt.1 ((AQ _ _).1 q)with h|h
  .exact W.dr k h
  grind)with h|⟨ds',h,W'⟩
 .rw[h]
  try dsimp only
  rw[g0 i5,List.set_set]
  grind
 .rw[h]
  try dsimp only
  rw[g9 i7];exact⟨0,_,ds',i5,W',i5⟩
theorem Tn.ajg(W:Tn p m C ds)(a:∀k d,aT ds k=dB d->i4 d.l<=d.room/\d.room<=512)(t most:Int):(fR m 0 Pow.new ds t most).2.2.1=Pow.new/\Tn p m C (fR m 0 Pow.new ds t most).2.2.2:=by
 by_cases e:(t<0∨t>=(i4 (aK ds m.drives):Int)∨most<0∨most>64)∨jP (i4 (aK ds m.drives):Int) t>4096
 .have:(fR m 0 Pow.new ds t most).2.2=(Pow.new,ds):=by
   unfold fR;rw[g9 i7];split
   .rfl
   .rename_i h;rw[g0 (e.resolve_left h)]
  rw[this];exact⟨i5,W⟩
 .have c:i4 (aK ds m.drives)<=9:=by
   have:=pc (nG (ds:=ds) (mu W.sto.may)) (m:=(qn 9).map λi:Nat=>(i:Int)) λk b=>by
    have j:=(ge b).1;have h0:=gB W.sto.may k (Ip.1 b).1;have q:=W.dr k (Ip.1 b).1;exact qo.2 ⟨k.toNat,qK.2 i6,i6⟩
   simpa using this
  have Z:DG m (aK ds m.drives) ds t most:=⟨i5,c,i6,λh=>e (.inr h),i6,λs n=>gB W.sto.may s (Ip.1 n).1⟩
  obtain⟨o,_,K,S,g,_⟩:=Xq Z W.sto a W.wt;exact⟨o,S,W.dr,W.pe,λk d f=>(g k d f).2⟩
end
section
variable {C:Int->aL}
theorem adz{g:av}{k:Nat}{v:Int}(h:i4 g=64):i4 (g.set k v)=64:=by rw[zf];exact h
theorem Re{g:av}(h:i4 g=64){k s:Int}(c:0<=k/\k<64)(b:0<=s/\s<64)(v:Int):(g.set k.toNat v).getD s.toNat 0=if s=k then v else g.getD s.toNat 0:=by
 rw[qg,qg,qV];by_cases a:s=k
 .rw[g0 i6,g0 i6,g0 a];rfl
 .rw[g9 i6,g9 a]
theorem adA{D:aD}(c:i4 D=64){g:Int}(d:0<=g/\g<64)(s:Int):aT (D.set g.toNat eH) s=if s=g then eH else aT D s:=by
 unfold aT;by_cases a:0<=s/\s<64
 .rw[g0 a,qV];by_cases b:s=g
  .subst b;rw[g0 i5,g0 i6,g0 rfl];rfl
  .rw[g9 i6,g9 b,g0 a]
 .rw[g9 a,g9 a];split<;>rfl
theorem adB{P:List (Int×aL)}{k:Int}{c:aL}:c∈gV P k↔(k,c)∈P:=by unfold gV;refine⟨λh=>?_,λh=>qo.2 ⟨(k,c),qB.2 ⟨h,js⟩,i5⟩⟩;obtain⟨⟨a,b⟩,f,rfl⟩:=qo.1 h;obtain⟨e,d⟩:=qB.1 f;have d:a=k:=i0 d;rw[<-d];exact e
end
section
variable {C:Int->aL}
theorem Kv{pages:Nat}{others:av}(a:∀k∈others,0<=k/\k<64):
  ∀(rs:List cH) (g:av) (l:List (Int×aL)) {g':av} {i:List (Int×aL)},i4 g=64->(∀r∈rs,iQ r=eS)->(∀k∈others,ij m ds k ((pages:Int)+g.getD k.toNat 0)=eS)->nM m ds pages others rs g l=dB (g',i)->
   ∃P,i=l++P/\P.map zw=rs.map cD/\(∀x∈P,x.1∈others)/\∀k∈others,g'.getD k.toNat 0=g.getD k.toNat 0+i4 (gV P k)/\ij m ds k ((pages:Int)+g'.getD k.toNat 0)=eS
 |[],g,l,g',i,_,_,hf,h=>by
  injection h with h
  injection h with h1 h2
  subst h1 h2;exact⟨[],js,i5,λx c=>(by cases c),λk d=>⟨by simp[gV],hf k d⟩⟩
 |r::rs,g,l,g',i,h64,hm,hf,h=>by
  obtain⟨_,_,o,_⟩:=(jI r).1 (hm r qQ);rw[To]at h;cases d:me m ds pages others g r with
  |none=>rw[d]at h;cases h
  |some k=>
   rw[d]at h;have e:=(QR o.1 (List.mem_of_find?_eq_some d)).1;have q:=List.find?_some d;have b:=a k e;obtain⟨P,u,t,p,j⟩:=Kv a rs (g.set k.toNat (g.getD k.toNat 0+1)) (l++[(k,cD r)]) (adz h64) (λx c=>hm x (qC _ c)) (λs f=>by
    rw[Re h64 b (a s f)]
    grind) h
   refine⟨(k,cD r)::P,by rw[u,qm];rfl,by rw[zS,zS,t],λx c=>?_,λs f=>⟨?_,(j s f).2⟩⟩
   .rcases qX.1 c with rfl|c
    .exact e
    .exact p x c
   .rw[(j s f).1,Re h64 b (a s f)];by_cases n:s=k
    .subst n;have:gV ((s,cD r)::P) s=cD r::gV P s:=by unfold gV;simp
     rw[this,q8];omega
    .rw[g9 n];have:gV ((k,cD r)::P) s=gV P s:=by unfold gV;rw[List.filter_cons_of_neg j1]
     rw[this]
theorem Tn.aiy(W:Tn p m C ds)(slot:Int):∃e E ds',fl m 0 Pow.new ds slot=(e,E,Pow.new,ds')/\Tn p E C ds'/\E.aA=m.aA:=by
 have S:=W.sto;unfold fl;rw[g9 i7];split
 .exact⟨5,m,ds,i5,W,i5⟩
 rename_i M;have M:slot∈m.drives:=Decidable.not_not.1 M;obtain⟨others,F⟩:=z6 ((aK ds m.drives).filter λk=>!decide (k=slot))
 obtain⟨N,q⟩:=z6 (sv m (m.drives.filter λk=>!decide (k=slot)))
 rw[<-F,<-q]
 try dsimp only
 split
 .exact⟨7,m,ds,i5,W,i5⟩
 rename_i hq;have K:m.seq<=2147483646:=by have:=λh=>hq (.inr h);omega
 have j:=gB S.may;have G:∀k∈others,k∈aK ds m.drives:=λk a=>by rw[F]at a;exact(qB.1 a).1
 have L:∀k∈others,0<=k/\k<64:=λk a=>j k (ge (G k a)).1;have u:others.Nodup:=by rw[F];exact(nG (mu S.may)).filter _
 have H:bh N=eS:=by rw[q];exact Tc S.may K (((bG m).1 S.may).2.1.filter _) λk a=>j k (qB.1 a).1
 cases hpl:rH m ds (ba N).length others slot with
 |none=>exact⟨7,m,ds,i5,W,i5⟩
 |some gl=>
  obtain⟨g,P⟩:=gl
  try dsimp only
  obtain⟨A,R⟩:=z6 (Kl m ds slot others)
  unfold rH at hpl;split at hpl
  .cases hpl
  rename_i y;rw[<-R]at hpl;have D:∀r∈A,∃d,aT ds slot=dB d/\r∈dJ m d.l:=λr o=>by
   rw[R]at o;have i:=(qB.1 o).1;unfold nL at i;cases b:aT ds slot with
   |none=>rw[b]at i;cases i
   |some d=>
    rw[b]at i;dsimp only at i;split at i
    .cases i
    .exact⟨d,i5,i⟩
  have B:∀r∈A,iQ r=eS:=λr o=>by
   obtain⟨d,_,h⟩:=D r o;exact(gY.1 (kp h).2.2).1
  have U:∀k:Int,(qf 64 (0:Int)).getD k.toNat 0=0:=λk=>by rw[qg,List.getElem?_replicate];split<;>rfl
  obtain⟨P2,e1,e2,e3,X⟩:=Kv L A (qf 64 0) [] js B (λk a=>by
   rw[U,Int.add_zero];refine Decidable.byContradiction λh=>y (zT.2 ⟨k,a,?_⟩);simp[h]) hpl
  rw[List.nil_append]at e1;subst e1;have Q:∀k∈others,g.getD k.toNat 0=(i4 (gV P k):Int):=λk a=>by rw[(X k a).1,U];omega
  have t:dL m ds others (λk=>(i4 (ba N):Int)+g.getD k.toNat 0)=eS:=qS.2 λk a=>(X k a).2;obtain⟨d1,m1,m2,J⟩:=uJ iF (N:=λk=>(i4 (ba N):Int)+g.getD k.toNat 0) u S.len t;rw[m1,g9 js]
  try dsimp only
  have s:∀{k c'},(k,c')∈P->∃r∈A,c'=cD r:=λ{k c'} h=>by
   have:c'∈P.map zw:=qo.2 ⟨_,h,i5⟩;rw[e2]at this;obtain⟨r,o,e⟩:=qo.1 this;exact⟨r,o,e.symm⟩
  have I:∀{k c'},(k,c')∈P->dR m C c':=λ{k c'} h=>by
   obtain⟨r,o,rfl⟩:=s h;obtain⟨d,b,h⟩:=D r o;exact S.cells slot d b _ (kp h).1
  obtain⟨T,l1,l2,Z⟩:=Cq iF (ds:=d1) (P:=P) m2 λx z=>by
   obtain⟨r,o,e⟩:=s (k:=x.1) (c':=x.2) z;have a:=e3 x z;obtain⟨d,i,h2⟩:=sS (qS.1 t _ a);obtain⟨r1,V,O⟩:=uK h2;refine⟨by rw[e];exact xy (B r o),_,by rw[J x.1,i,Option.map_some,g0 a],r1,?_⟩;have hg:=Q x.1 a;dsimp only at V O;rw[V]
   try dsimp only
   have O:((cY m d ((i4 (ba N):Int)+g.getD x.1.toNat 0)).l.length:Int)+max ((i4 (ba N):Int)+g.getD x.1.toNat 0) 0<=d.room:=O;omega
  rw[l1,g9 js]
  try dsimp only
  have Y:Tn p m C T:=by
   refine⟨⟨S.may,l2,λk d b=>?_,S.ents⟩,W.dr,W.pe,λk d b=>?_⟩
   .obtain⟨d',i,rfl⟩:=mE Z b;obtain⟨w,h0,rfl⟩:=mE (f:=λk d=>if k∈others then cY m d ((i4 (ba N):Int)+g.getD k.toNat 0)else d) J i;refine GJ (λc v=>?_) λc v=>I (adB.1 v);split at v
    .rcases QK v with h|h
     .exact S.cells k w h0 c h
     .exact vm C S.may h
    .exact S.cells k w h0 c v
   .obtain⟨d',i,rfl⟩:=mE Z b;obtain⟨w,h0,rfl⟩:=mE (f:=λk d=>if k∈others then cY m d ((i4 (ba N):Int)+g.getD k.toNat 0)else d) J i;refine GM ?_;split
    .exact IE (W.wt k w h0)
    .exact W.wt k w h0
  rcases Y.Rc (n:=N) H (by rw[q];rfl) (by rw[q];rfl) (by rw[q];exact vq _) (λx z=>by rw[q]at z;exact z) (λk a=>by rw[q]at a;exact W.dr k (qB.1 a).1)with h|⟨d3,h,W3⟩
  .rw[h,g0 (show(7:Int)≠0 by decide)];exact⟨7,m,T,i5,Y,i5⟩
  .rw[h,g9 js];refine⟨0,N,_,i5,⟨⟨W3.sto.may,by simp[W3.sto.len],λk d b=>?_,W3.sto.ents⟩,W3.dr,W3.pe,λk d b=>?_⟩,by rw[q];rfl⟩
   all_goals
    rw[adA W3.sto.len (j slot M)]at b;split at b
    .cases b
   .exact W3.sto.cells k d b
   .exact W3.wt k d b
end
structure akd (m:au) (o:Int) (d:be) (bad:Nat->Prop):Prop where
 lost:d.lost=eX
 pos:0<d.l.length
 len:d.l.length<=60
 cell:∀c∈d.l,c.length=64
 bad:∀j (hj:j<d.l.length),gg d.l[j]=eH↔bad j
 cnt:∀c∈d.l,∀r,dS c=dB r->eu m r=eS/\r.object=o
 apart:(d.l.filterMap (kJ m)).Pairwise λa b=>nU a b=eX
theorem aaR(k:Nat):upto (k+1)=upto k++[(k:Int)]:=by simp[upto,zt]
theorem adC(n:Nat)(a:n<65536):(qG (qz .u16) (n:Int)).toNat=n:=by simp[qz];omega
theorem Uy(p q:Nat)(b:p<65536)(a:q<65536):qd .u16 ((qG (qz .u16) (p:Int)^^^qG (qz .u16) (q:Int)).toNat:Nat)=((p^^^q:Nat):Int):=by rw[BitVec.toNat_xor,adC p b,adC q a];have:p^^^q<2^16:=Nat.xor_lt_two_pow b a;show((p^^^q:Nat):Int)%65536=_;omega
theorem BU(a b:UInt8)(h:f9):ai kg 320 #[xU kb a.toNat,xU kb b.toNat] h λv h'=>v=xU kb (Gf.mul a b).toNat/\h'=h:=by
 have w:∀b:Nat,b<256->∀i:Nat,i<8->(qd kb ((qG (qz kb) (zr (b:Int) (2^min (i:Int).toNat (qz kb)))&&&(qG (qz kb) (1:Int))).toNat:Nat))=((b/2^i%2:Nat):Int):=j5
 have o:∀a:Nat,a<256->∀i:Nat,i<8->qd .u16 ((qd .u16 (a:Int))*2^min (i:Int).toNat (qz .u16))=((a*2^i:Nat):Int)/\a*2^i<65536:=j5
 have t3:∀(p i:Nat),p<65536->i<16->qd .u16 ((qG (qz .u16) (zr (p:Int) (2^min (i:Int).toNat (qz .u16)))&&&(qG (qz .u16) (1:Int))).toNat:Nat)=((p/2^i%2:Nat):Int):=by
  intro p i f g;have d:min (i:Int).toNat (qz .u16)=i:=by simp[qz];omega
  rw[d];have x:zr (p:Int) (2^i)=((p/2^i:Nat):Int):=by rw[Int.fdiv_eq_ediv_of_nonneg _ (by exact Int.pow_nonneg i7)];simp
  rw[x];have k:p/2^i<65536:=Nat.lt_of_le_of_lt (Nat.div_le_self _ _) f;have t:(qG (qz .u16) ((p/2^i:Nat):Int)).toNat=p/2^i:=adC _ k;have r:(qG (qz .u16) (1:Int)).toNat=1:=i7
  rw[BitVec.toNat_and,t,r,Nat.and_one_is_mod];show((p/2^i%2:Nat):Int)%65536=_;omega
 have t4:∀i:Nat,i<8->qd .u16 ((283:Int)*2^min (qd ka (((15-i:Nat):Int)-(8:Int))).toNat (qz .u16))=((283*2^(7-i):Nat):Int)/\283*2^(7-i)<65536/\0<=qd ka (((15-i:Nat):Int)-(8:Int)):=j5
 have l:=zR a;have s:=zR b;refine ts Tryz.func320 ?_ (xc (xc (u9 (xc (v7 (ws [(5,(.sc (.int .u16))),(6,aR)] [(5,7),(8,23)] v6))) (x0 [(5,(.sc (.int .u16))),(7,aR)] [(5,6),(7,8),(23,37)]))));refine an (λi:Nat=>((Gf.pl a.toNat b.toNat i:Int),(i:Int))) (λi h'=>h'=h/\i<=8) (λi=>8-i) 0 i5 ⟨i5,i6⟩ ?_;rintro i k ⟨rfl,g⟩
 try dsimp only
 refine ae (λe=>?_) (λe=>?_)
 .have c:i<8:=i6
  refine⟨i6,?_⟩;rw[w _ s i c,af _];refine aY (λd=>?_) (λd=>?_)
  .refine⟨i6,i+1,?_,⟨i5,i6⟩,i6⟩;have:=o _ l i c;rw[this.1,Uy _ _ (Gf.VN _ _ l i g) this.2,Gf.pl,g0 i6];rfl
  .refine⟨i+1,?_,⟨i5,i6⟩,i6⟩;rw[Gf.pl,g9 i6];rfl
 .have c:i=8:=i6
  subst c;have f:=Gf.VN _ b.toNat l 8 (qi _);generalize q:Gf.pl a.toNat b.toNat 8=P at f⊢;refine an (λi:Nat=>((Gf.rd P i:Int),(15:Int)-(i:Int))) (λi h'=>h'=k/\i<=8) (λi=>8-i) 0 i5 ⟨i5,i6⟩ ?_;rintro i y ⟨rfl,g⟩;have m:=Gf.aeg P f i g
  try dsimp only
  refine ae (λe=>?_) (λe=>?_)
  .have c:i<8:=i6
   have u:(15:Int)-(i:Int)=((15-i:Nat):Int):=i6
   rw[u];refine⟨i6,?_⟩;rw[t3 _ (15-i) m i6,af (((15-i:Nat):Int)-1)];have j:=t4 i c;refine aY (λd=>?_) (λd=>?_)
   .refine⟨j.2.2,i+1,?_,⟨i5,i6⟩,i6⟩;rw[j.1,Uy _ _ m j.2.1,Gf.rd,g0 i6];exact y9 i5 i9
   .refine⟨i+1,?_,⟨i5,i6⟩,i6⟩;rw[Gf.rd,g9 i6];exact y9 i5 i9
  .have c:i=8:=i6
   subst c;refine⟨?_,i5⟩;have:=Gf.VM a b;rw[Gf.oa,q]at this;rw[<-this];show Value.int .u8 (((Gf.rd P 8:Nat):Int)%256)=_;rfl
theorem Tw(n:Int)(h:f9):ai kg 259 #[xU ka n] h λv h'=>v=xU kb (Gf.pw (n%255).toNat).toNat/\h'=h:=by
 refine ts Tryz.func259 ?_ (xc (xc (x6 [(0,aR)] [(0,1),(7,11)] (xc (x0 [(3,(.sc (.int .u8))),(4,aR)] [(3,5),(11,18)])))));have l:=Int.tmod_lt_of_pos n (show(0:Int)<255 by decide);have a:-255<n.tmod 255:=Int.lt_tmod_of_pos n i7;have b:=HC n 255;have j:=Int.emod_nonneg n (show(255:Int)≠0 by decide);have g:=Int.emod_lt_of_pos n (show(0:Int)<255 by decide);refine⟨i7,bF (λs h'=>s=n%255/\h'=h) ?_ ?_⟩
 .refine ae (λd=>?_) (λc=>?_)
  .rw[g0 d]at b;exact⟨by rw[af _,b],i5⟩
  .rw[g9 c]at b;exact⟨b.symm,i5⟩
 .rintro s h' ⟨rfl,rfl⟩;obtain⟨N,k⟩:∃N:Nat,n%255=N:=⟨(n%255).toNat,i6⟩
  rw[k,qj];refine an (λi:Nat=>(((Gf.pw i).toNat:Int),(i:Int))) (λi a=>a=h'/\i<=N) (λi=>N-i) 0 i5 ⟨i5,i6⟩ ?_;rintro i a ⟨rfl,m⟩
  try dsimp only
  refine ae (λe=>?_) (λe=>?_)
  .have f:=BU (Gf.pw i) 3 a;refine f.mono ?_;rintro v h3 ⟨rfl,rfl⟩;refine⟨_,i5,i+1,?_,⟨i5,i6⟩,i6⟩;rw[af _,Gf.YD];rfl
  .have:i=N:=i6
   subst this;exact⟨i5,i5⟩
theorem Tx(a:UInt8)(h:f9):ai kg 257 #[xU kb a.toNat] h λv h'=>v=xU kb (Gf.inv a).toNat/\h'=h:=by
 refine ts Tryz.func257 ?_ (xc (x0 [(3,aR)] [(2,15)]));refine an (λk:Nat=>(k:Int)) (λk h'=>h'=h/\1<=k/\k<=256/\∀j,j<k->Gf.mul a (zL j)≠1) (λk=>256-k) 1 i5 ⟨i5,i6,i6,λj d=>?_⟩ ?_
 .have:j=0:=i6
  subst this;show Gf.mul a 0≠1;rw[Gf.mul_zero];decide
 .rintro k h' ⟨rfl,m,o,d⟩;refine ae (λe=>?_) (λe=>?_)
  .have l:k<256:=i6
   have i:qd kb (k:Int)=((zL k).toNat:Int):=by show(k:Int)%256=_;simp[Nat.mod_eq_of_lt l];omega
   rw[i];refine(BU a (zL k) h').x7 ⟨_,i5,?_⟩;refine aY (λg=>?_) (λg=>?_)
   .have b:Gf.mul a (zL k)=1:=UInt8.toNat_inj.1 (show(Gf.mul a (zL k)).toNat=1 from vi.1 g);exact⟨by rw[<-Gf.VO b],i5⟩
   .refine⟨k+1,j4,⟨i5,i6,i6,λj c=>?_⟩,i6⟩;rcases qZ.1 c with b|rfl
    .exact d j b
    .intro b;apply g;rw[b];rfl
  .have:k=256:=i6
   subst this;have f:a=0:=by refine Classical.byContradiction λf=>?_;have:=d (Gf.inv a).toNat (zR _);rw[UInt8.ofNat_toNat]at this;exact this (Gf.Cd f)
   subst f;exact⟨i5,i5⟩
theorem Gb(c:UInt8)(a b:Sl)(f d:Row)(h:f9)(m:Rd h a 1 aB f)(o:Rd h b 1 aB d)(z:i4 f=i4 d)(G:i4 d<=2^30):
  ai kg 258 #[xU kb c.toNat,a,b] h λv h'=>∃r:Sl,v=r/\Sp h h' [aq 5 r 1 aB (cB c f d)]:=by
 refine ts Tryz.func258 ?_ (xc (xc (x0 [(14,aR)] [(8,9),(14,32)])));have w:=m.len;have q:=o.len;refine(Sp.refl h).make ag aB gm i7 0 i5 i5 d.length d.length i6 i6 (qi _) i6 λs F x D t=>?_;refine an (λk:Nat=>(k:Int)) (λk h'=>k<=i4 d/\Sp h h' [aq 5 s 1 aB ((cB c f d).take k++qf (i4 d-k) 0)]) (λk=>i4 d-k) 0 i5 ⟨i6,sz⟩ ?_;rintro k p ⟨E,g⟩;have l:=bR (c:=c) z;refine ae (λe=>?_) (λe=>?_)
 .have i:k<i4 d:=i6
  refine(Seq.up o g.ac).IZ k i5 i _ i5 λa3 h3=>?_;refine(Seq.up m g.ac).bm k i5 i6 _ i5 ?_;refine(BU c _ p).x7 ⟨_,i5,⟨h3,A0⟩,?_⟩
  try dsimp only
  rw[mJ];refine g.set ag 0 i5 (λ_=>rfl) i5 k i5 jj _ i5 i5 i5 λA u=>⟨A0,?_⟩
  refine⟨k+1,j4,⟨i6,?_⟩,i6⟩;have j:i4 ((cB c f d).take k)=k:=ln
  have y:((cB c f d).take k++qf (i4 d-k) 0).set k (d[k]^^^Gf.mul c (f[k]'i6))=(cB c f d).take (k+1)++qf (i4 d-(k+1)) 0:=by rw[List.set_append_right _ _ i6,j,za,show d.length-k=i4 d-(k+1)+1 by omega,List.replicate_succ,List.set_cons_zero,aG _ _,qm];simp[cB]
  rw[<-y];exact u
 .have:k=i4 d:=i6
  subst this;refine⟨s,i5,?_⟩;rw[qh i6,za,List.replicate_zero,List.append_nil]at g;exact g
theorem NH(c:UInt8)(a:Sl)(b:Row)(h:f9)(f:Rd h a 1 aB b)(t:i4 b<=2^30):
  ai kg 256 #[xU kb c.toNat,a] h λv h'=>∃r:Sl,v=r/\Sp h h' [aq 5 r 1 aB (scaleB c b)]:=by
 refine ts Tryz.func256 ?_;have k:=f.len;refine(Sp.refl h).make ag aB gm i7 0 i5 i5 b.length b.length i6 i6 (qi _) i6 λs l m q d=>?_;refine(Gb c a s b _ l (Seq.up f d.ac) (d.seq 0 i5 λ_=>rfl) js jj).y0 λr p o=>⟨r,i5,r,i5,?_⟩;have e:cB c b (qf b.length 0)=scaleB c b:=fc (n:=i4 b) (by rw[bR js];simp) (nf _ _) λj _=>by
  rw[cM js,th,show qf b.length (0:UInt8)=aN b.length from i5,cu,UInt8.zero_xor]
 rw[<-e];exact(d.comp o).take 1 (λi A g=>by cases i with|zero=>exact g|succ i=>simp at g)
theorem rI(p:Pm)(h:f9):ai kg 86 #[ir p] h λv h'=>v=xU ka (bp p)/\Sp h h' []:=by refine ts Tryz.func86 ?_ (args:=[p]);refine(Sp.refl h).boxed λa f d=>?_;refine⟨p,(d.box 0 i5).aE _ i5,?_⟩;refine(mT p f).x8 λi g=>?_;have b:=d.comp g;have c:=b.box 0 i5;refine⟨_,i5,aX (λe=>⟨by simp[bp,e],.zip b.ac⟩) λe=>?_⟩;refine⟨_,c.cell0 i5,_,c.cell i5,?_,.zip b.ac⟩;have:=(bK p).1 e;rw[af _,bp,g0 e]
theorem uj(id:Int)(h:f9):ai kg 204 #[xU ka id] h λv h'=>v=xY (bE id)/\h'=h:=by
 refine ts Tryz.func204 ?_;refine ae (λe=>⟨?_,i5⟩) (λe=>⟨?_,i5⟩)
 .rw[bE,hU (show 0<=id from e)];rfl
 .rw[bE,ii (show¬0<=id from e)];rfl
theorem Gc(a:Addr)(s:Int)(h:f9)(d:bN h a 390 [xU kf s]):ai kg 321 #[xW (dB a)] h λv h'=>v=xU ke (told s)/\bN h' a 390 [xU kf (pN s)]/\aS (·≠a.block) h h':=by refine ts Tryz.func321 ?_;refine⟨a,i5,s,d.cell0 i5,a,i5,?_⟩;refine uq ag d i5 _ i5 i5 i5 (qi _) λe b c _=>?_;exact⟨a,i5,_,b.cell0 i5,i7,i5,b,c⟩
theorem Ea(a:Addr)(s n:Int)(h:f9)(f:bN h a 390 [xU kf s])(i:0<n:=by omega)(d:n<=2^62:=by omega):ai kg 367 #[xW (dB a),xU ka n] h λv h'=>v=xU ka (jO s n)/\bN h' a 390 [xU kf (pN s)]/\aS (·≠a.block) h h':=by refine ts Tryz.func367 ?_;refine ae (λe=>i6) λ_=>?_;refine(Gc a s h f).x8 λg ⟨b,c⟩=>⟨_,i5,o5,i5,b,c⟩
theorem LF{p:aw}(t:Sl)(lt:av)(x a:Int)(h:f9)(j:Seq h p t 1 az lt)(q:0<=x)(b:lt.getLast?=dB a)(c:x<a)(o:i4 lt<=2^40):
  ai kg 366 #[t,xU ka x] h λv h'=>v=xU ka (KR lt x)/\h'=h:=by
 refine ts Tryz.func366 ?_ (xc (u9 (xc (v7 (ws [(5,aR)] [(4,24)] (x6 [] [(6,14)] v6)))) v6));have r:=j.len;have f:(lt.findIdx λy=>decide (y>x))<i4 lt:=List.findIdx_lt_length_of_exists ⟨a,List.mem_of_getLast? b,rc⟩;refine an (λk:Nat=>(k:Int)) (λk h'=>h'=h/\k<=(lt.findIdx λy=>decide (y>x))) (λk=>i4 lt-k) 0 i5 ⟨i5,i6⟩ ?_;rintro k h' ⟨rfl,i⟩;refine aJ ?_;refine ae (λe=>?_) (λe=>i6);refine ae (λ_=>?_) (λe=>i6);have d:k<i4 lt:=i6
 refine j.bm k i5 d _ i5 ?_;rw[af _];refine ae (λm=>?_) (λm=>?_)
 .have:(lt.findIdx λy=>decide (y>x))=k:=Nat.le_antisymm (Nat.le_of_not_lt λg=>by have:=List.not_of_lt_findIdx g;simp at this;omega) i;exact⟨by rw[KR,this];rfl,i5⟩
 .refine⟨k+1,i5,⟨i5,?_⟩,i6⟩;refine Nat.lt_of_le_of_ne i λl=>?_;have:=List.findIdx_getElem (xs:=lt) (p:=λy=>decide (y>x)) (w:=f);simp only[<-l]at this;simp at this;omega
theorem Rf(t:Sl)(n:Nat)(a:Addr)(s:Int)(h:f9)(g:Seq h (·≠a.block) t 1 az (gf n))(k:bN h a 390 [xU kf s])(d:1<=n)(f:n<=20):
  ai kg 322 #[t,xW (dB a)] h λv h'=>v=xU ka (uu s n)/\bN h' a 390 [xU kf (pN s)]/\aS (·≠a.block) h h':=by
 refine ts Tryz.func322 ?_;have o:=g.len;rw[gD]at o;refine aY (λe=>i6) λ_=>?_;rw[af _];refine g.bm (n-1) i6 m8 _ i5 ?_;have l:(gf n)[n-1]'(by rw[gD];omega)=((jT n n:Nat):Int):=by simp only[gf,List.getElem_map,List.getElem_range];rw[show n-1+1=n by omega]
 rw[l];have q:=HM n f d;have m:=uS n f n f;refine(Ea a s _ h k).mono ?_;rintro v j ⟨rfl,i,c⟩;have b:=oS s (jT n n);refine⟨_,i5,(LF t (gf n) _ _ j (g.ac c) b.1 (CO n d) b.2 m8).x7 ?_⟩;exact⟨_,i5,i5,i,c⟩
def tE(r:Nat):Nat->Nat
 |0=>r
 |k+1=>tE r k/2
theorem NI(l:Nat)(h:f9)(f:l<=20)(b:1<=l):ai kg 323 #[xU ka l] h λv h'=>∃s:Sl,v=s/\Sp h h' [aq 3 s 1 az (gf l)]:=by
 have S:∀l:Nat,l<=20->∀r:Nat,r<=5->(∀j,j<r->j*j<l)->r*r<l->r<5:=i7
 have V:∀l:Nat,l<=20->∀r:Nat,r<=5->(∀j,j<r->j*j<l)->¬r*r<l->r=cy l:=i7
 have Z:∀r:Nat,r<=5->∀k:Nat,k<=3->0<tE r k->k<3/\qd ka (yp (tE r k:Int) 2)=(tE r (k+1):Int):=i7
 have b2:∀r:Nat,r<=5->∀k:Nat,k<=3->tE r k=0->(∀j,j<k->0<tE r j)->k=sJ r:=i7
 have W:∀k:Nat,k<=20->1<k->qd ka ((k:Int)*qd ka ((k:Int)-1))=((k*(k-1):Nat):Int)/\k*(k-1)≠0:=i7
 have L:∀l:Nat,l<=20->1<=l->1<=cy l/\cy l<=5:=i7
 have c3:∀l:Nat,l<=20->1<=l->qd ka (yp (l:Int) (cy l))=((l/cy l:Nat):Int):=i7
 have K:∀l:Nat,l<=20->1<=l->∀k:Nat,k<=20->1<=k->qd ka ((l:Int)*k)≠0:=j5
 have N:∀k:Nat,k<=20->1<k->qd ka (yp (1048576:Int) (qd ka ((k:Int)*qd ka ((k:Int)-1))))=((1048576/(k*(k-1)):Nat):Int):=j5
 have Q:∀l:Nat,l<=20->1<=l->qd ka (yp (1048576:Int) (l:Int))=((1048576/l:Nat):Int):=j5
 have J:∀l:Nat,l<=20->1<=l->∀k:Nat,k<=20->1<=k->qd ka (yp (qd ka ((1048576:Int)*cy l)) (qd ka ((l:Int)*k)))=((1048576*cy l/(l*k):Nat):Int):=j5
 have O:∀l:Nat,l<=20->1<=l->qd ka (yp (qd ka ((qd ka ((1048576:Int)*cy l))*sJ (cy l))) (l:Int))=((1048576*cy l*sJ (cy l)/l:Nat):Int):=j5
 have M:∀l:Nat,l<=20->∀k:Nat,k<=20->1048576*cy l/(l*k)<=2^30/\1048576*cy l*sJ (cy l)/l<=2^30/\1048576/(k*(k-1))<=2^30/\1048576/l<=2^30:=j5
 refine ts Tryz.func323 ?_ (xc (x6 [] [(2,3),(12,18)] (xc (xc (u9 (v7 (ws [(4,aR)] [(4,5),(18,25)] v6)) (xc (u9 (xc (v7 (ws [(6,aR),(7,aR)] [(6,8),(29,35)] v6))) (xc (xc (u9 (xc (v7 (ws [(8,cE),(9,aR),(10,aR)] [(8,12),(35,82)] (xc (u9 (v7 (xc (x6 [(11,aR)] [(11,12),(43,51)] (x6 [(11,aR)] [(11,12),(51,63)] (x6 [(11,aR)] [(11,12),(63,75)] v6))))) v6))))) v6))))))))));refine aJ (ae (λe=>i6) λ_=>ae (λe=>i6) λ_=>?_);refine an (λr:Nat=>(r:Int)) (λr h'=>h'=h/\r<=5/\∀j,j<r->j*j<l) (λr=>5-r) 0 i5 ⟨i5,i6,λj p=>i6⟩ ?_;rintro r h' ⟨rfl,y,p⟩;have R:r*r<=25:=zK y y;have e:qd ka ((r:Int)*(r:Int))=((r*r:Nat):Int):=by rw[<-Int.natCast_mul];exact nR _
 rw[e];refine ae (λU=>?_) (λP=>?_)
 .have g:r*r<l:=i6
  have G:=S l f r y p g;refine⟨r+1,j4,⟨i5,i6,λj a=>?_⟩,i6⟩;rcases qZ.1 a with a|rfl
  .exact p j a
  .exact g
 .have A:=V l f r y p i6;have o:=L l f b;rw[A];refine⟨i6,?_⟩;refine an (λk:Nat=>((k:Int),(tE (cy l) k:Int))) (λk w=>w=h'/\k<=3/\∀j,j<k->0<tE (cy l) j) (λk=>3-k) 0 i5 ⟨i5,i6,λj p=>i6⟩ ?_;rintro k w ⟨rfl,B,q⟩
  try dsimp only
  refine ae (λm=>?_) (λm=>?_)
  .have I:=Z _ o.2 k B i6;refine⟨i7,k+1,?_,⟨i5,i6,λj a=>?_⟩,i6⟩
   .rw[I.2,af _];rfl
   .rcases qZ.1 a with a|rfl
    .exact q j a
    .omega
  .have F:=b2 _ o.2 k B i6 q;subst F;refine an (λt:Sl×Nat=>(t.1,((jT l t.2:Nat):Int),((t.2+1:Nat):Int))) (λt h'=>t.2<=l/\Sp w h' [aq 3 t.1 1 az ((gf l).take t.2)]) (λt=>l-t.2) (⟨eH,0,0⟩,0) i5 ⟨js,aa.nil (Sp.refl w) 3 1 az⟩ ?_;rintro⟨s,k⟩ h3 ⟨B,D⟩;dsimp only at*;refine ae (λe=>?_) (λe=>?_)
   .have d:k+1<=20:=i6
    have z:=M l f (k+1) d;have b3:=uS l f k i6;have b4:=CN l f (k+1) d;refine⟨i6,bF (λx h'=>x=(((if k+1>1 then 1048576/((k+1)*(k+1-1))else 1048576/l):Nat):Int)/\h'=h3) ?_ ?_⟩
    .refine ae (λm=>?_) (λm=>?_)
     .have:=W (k+1) d i6;exact⟨by rw[this.1];omega,by rw[N (k+1) d i6,g0 i6],i5⟩
     .exact⟨by rw[Q l f b,g9 i6],i5⟩
    .rintro x H ⟨rfl,rfl⟩;have I:(if k+1>1 then 1048576/((k+1)*(k+1-1))else 1048576/l)<=2^30:=by split<;>first|exact z.2.2.1|exact z.2.2.2
     refine bF (λx h'=>x=(((if k+1>1 then 1048576/((k+1)*(k+1-1))else 1048576/l)+(if k+1<l/cy l then 1048576*cy l/(l*(k+1))else 0):Nat):Int)/\h'=H) ?_ ?_
     .rw[c3 l f b];refine ae (λm=>⟨K l f b (k+1) d i6,?_,i5⟩) (λm=>⟨?_,i5⟩)
      .rw[J l f b (k+1) d i6,GF _ _ i6 (qM z.1 i7),g0 (c:=k+1<l/cy l) (xf.1 m)]
      .rw[g9 (c:=k+1<l/cy l) λE=>m (xf.2 E)];rfl
     .rintro x G ⟨rfl,rfl⟩;refine bF (λx h'=>x=((lN l (k+1):Nat):Int)/\h'=G) ?_ ?_
      .rw[c3 l f b];refine aY (λu=>⟨i6,?_,i5⟩) (λu=>⟨?_,i5⟩)
       .have i:k+1=l/cy l:=vi.1 u;rw[O l f b,g9 (c:=k+1<l/cy l) i6,yc,GF _ _ i6 (qM z.2.1 i7),lN,g9 (c:=k+1<l/cy l) i6,g0 (c:=k+1=l/cy l) i]
       .have i:¬k+1=l/cy l:=λE=>u (vi.2 E);rw[lN,g9 (c:=k+1=l/cy l) i]
      .rintro x h6 ⟨rfl,rfl⟩;have u:qd ka ((jT l k:Int)+(lN l (k+1):Int))=((jT l (k+1):Nat):Int):=by rw[af _,jT];rfl
       rw[u];refine D.push ag 0 i5 gz i5 i7 (λ_=>rfl) eZ _ i5 i7 ln λX H Y=>?_;refine⟨(X,k+1),j0,⟨i9,?_⟩,i9⟩;have T:(gf l).take (k+1)=(gf l).take k++[((jT l (k+1):Nat):Int)]:=by rw[aG _ _ m8];simp[gf]
       dsimp only;rw[T];exact Y
   .refine⟨s,i5,?_⟩;rw[qh m8]at D;exact D
section
variable {pw:Addr}
end
abbrev GN(p s:bL)(L:List bL):aW:=.pointer p::.pointer s::L.map .pointer
abbrev dm(p s:bL):aW:=GN p s (qf 64 eH)
variable {a2 pw2 b2:Addr} {da2:List bL} {mc:aW}
section
variable {pw b:Addr}
theorem aaS(pw s:Addr):aH kg (Instr.build 64 #[(0,xW (dB pw)),(1,xW (dB s))]) (xZ (dm (dB pw) (dB s)).toArray):=
 pI ag (i:=_) i5 i5 i5 (vs:=[(0,xW (dB pw)),(1,xW (dB s))]) (cells:=(dm (dB pw) (dB s)).toArray) j6
theorem aaT(p:Pm)(extra:Int)(s:Sl)(l:av)(k:St B h0 As λh=>Rd h s 1 az l)(q:i4 l<=2^20)(H:aa B h0 h As):
  ai kg 14 #[ir p,xU ka extra,s] h λv h'=>
   ((ey p extra Pow.new l).1≠0->v=.tuple #[xW eH,xU ka (ey p extra Pow.new l).1]/\aa B h0 h' As)/\
   ((ey p extra Pow.new l).1=0->∃(b a pw:Addr) (x:bw) (da:List bL),v=.tuple #[xW (dB b),xU ka 0]/\
    aa B h0 h' (ak b 64 (dm (dB pw) (dB a))::bc bi a pw (aV x) Pow.new.offs da (ey p extra Pow.new l).2.1 (ey p extra Pow.new l).2.2::bJ x (cV p extra l)::As)):=by
 refine ts Tryz.func14 ?_ (args:=[p,(extra:Int),s]);refine H.boxed λm j d=>?_;have d:aa B h0 j (ak m 25 [xU ka p.1,xU ka p.2.1,xU ka p.2.2]::As):=d.aZ;refine(YI j).y0 λpw u o=>?_;have i:=d.bS o;refine⟨_,i5,p,(i.box 1 i5).aE _ i5,?_⟩;refine(Sr p extra s l (k.cons) q i).mono ?_;rintro _ h3 ⟨n,r⟩;by_cases c:(ey p extra Pow.new l).1=0
 .obtain⟨a,x,da,rfl,f⟩:=r c;refine⟨(dB a,0),i5,bH (λe=>absurd i5 e) λ_=>⟨_,aaS pw a,f.boxed λb t g=>?_⟩⟩;have g:=g.aZ;exact⟨λe=>absurd c e,λ_=>⟨b,a,pw,x,da,i5,g.aI 4 [0,1,2]⟩⟩
 .obtain⟨rfl,f⟩:=n c;refine⟨(eH,(ey p extra Pow.new l).1),i5,bH (λ_=>⟨λ_=>⟨i5,f.rest⟩,λe=>absurd e c⟩) λe=>absurd e c⟩
theorem Hq{p:bL}{L:List bL}(c:bN h b 64 (GN p (dB a) L)):ai kg 6 #[xW (dB b)] h λv h'=>v=xW (dB a)/\h'=h:=by refine ts Tryz.func6 ?_;exact aP (λe=>j3) λ_=>⟨b,i5,dB a,c.cell i5,i5,i5⟩
end
abbrev pD:=Int×ByteArray×Sl×Int×Int×Int×Int×Sl×Sl
abbrev mvG(y:pD):aW:=[xU ka y.1,xX y.2.1,y.2.2.1,xU ka y.2.2.2.1,xU ka y.2.2.2.2.1,xU ka y.2.2.2.2.2.1,xU ke y.2.2.2.2.2.2.1,y.2.2.2.2.2.2.2.1,y.2.2.2.2.2.2.2.2]
abbrev mX(y:pD):Value:=xZ (mvG y).toArray
variable {q:bL}
section
variable {pw b:Addr}
theorem Rh(y:pD)(s:y.1=1)(c:aL)(l:St B h0 As λh=>Rd h y.2.2.1 1 aB c)(i:y.2.2.1.len<=y.2.2.1.cap)(r:y.2.1.size<=2^40)(o:bh m=eS)(f:i4 c<=2^20)(H:aa B h0 h (bo a pw da offs w ds m::ak b 64 (dm q (dB a))::As)):
  ai kg 17 #[xW (dB b),mX y] h λv h'=>v=nw (de (dv m offs w ds y.2.1 c).1)/\
   aa B h0 h' (bo a pw da offs (dv m offs w ds y.2.1 c).2.2.1 (dv m offs w ds y.2.1 c).2.2.2 (dv m offs w ds y.2.1 c).2.1::ak b 64 (dm q (dB a))::As):=by
 refine ts Tryz.func17 ?_ (xc (x6 [] [(5,78)] v6)) (args:=[(dB b),y]);refine H.boxed λE F g=>?_;have g:=g.aZ;refine g.alloc ag i5 λa2 D d=>?_;have d:=d.aZ;refine bF (λ_ h'=>aa B h0 h' (ak a2 44 (fI (de (dv m offs w ds y.2.1 c).1))::bo a pw da offs (dv m offs w ds y.2.1 c).2.2.1 (dv m offs w ds y.2.1 c).2.2.2 (dv m offs w ds y.2.1 c).2.1::ak b 64 (dm q (dB a))::As)) ?_ ?_
 .refine⟨y.1,(d.box 1 i5).cell0 i5,aY (λ_=>?_) λe=>absurd s e⟩;refine⟨b,i5,dB a,(d.box 3 i5).cell i5,y.2.1,(d.box 1 i5).cell i5,y.2.2.1,(d.box 1 i5).cell i5,?_⟩;have t:=d.aI 4 [2,0,3];refine(afM y.2.1 y.2.2.1 c (As:=ak a2 44 (fI (de 0))::ak b 64 (dm q (dB a))::As) l.cons.cons i r o f t).x8 λz u=>⟨_,i5,A0,u.fM ag 1 i5 i5 [xU ka (dv m offs w ds y.2.1 c).1] i5 i5 i5 js λx p=>⟨A0,?_⟩⟩;exact p.aI 3 [1,0,2]
 .rintro _ A k;refine⟨de (dv m offs w ds y.2.1 c).1,(k.box 0 i5).aE _ i5,k.storeAll ag 0 i5 i5 (fI (de (dv m offs w ds y.2.1 c).1)) i5 i5 i5 i5 λG j=>?_⟩;exact⟨de (dv m offs w ds y.2.1 c).1,(j.box 0 i5).aE _ i5,i5,j.rest⟩
theorem NJ(y:pD)(r:y.1=5)(k:bh m=eS)(H:aa B h0 h (bo a pw da offs w ds m::ak b 64 (dm q (dB a))::As)):
  ai kg 17 #[xW (dB b),mX y] h λv h'=>∃t:Sl,v=nw ((gZ m offs w ds y.2.1).2,cZ,cZ,(gZ m offs w ds y.2.1).1.1,(gZ m offs w ds y.2.1).1.2.1,(gZ m offs w ds y.2.1).1.2.2,t,0)/\Sp h h' []:=by
 refine ts Tryz.func17 ?_ (xc (x6 [] [(5,78)] v6)) (args:=[(dB b),y]);have c:=H.box 1 i5;refine(Sp.refl h).boxed λF G o=>?_;refine o.alloc ag i5 λa2 D d=>?_;have f:=c.ac d.ac c.lt;obtain⟨E,j⟩:=z6 (gZ m offs w ds y.2.1)
 refine bF (λ_ h'=>∃t:Sl,Sp h h' [ak a2 44 (fI (E.2,cZ,cZ,E.1.1,E.1.2.1,E.1.2.2,t,0))]) ?_ ?_
 .refine⟨y.1,(d.box 0 i5).cell0 i5,?_⟩;rw[r];refine aY (λe=>absurd e i7) λ_=>aY (λe=>absurd e i7) λ_=>aY (λe=>absurd e i7) λ_=>aY (λe=>absurd e i7) λ_=>aY (λ_=>?_) λe=>absurd i5 e;refine⟨b,i5,dB a,f.cell i5,y.2.1,(d.box 0 i5).cell i5,(adx y.2.1 k (H.up d.ac)).y0 λt h3 l=>?_⟩;have s:=d.up l.ac;refine⟨((E.1.1,E.1.2.1,E.1.2.2,t),E.2),by rw[j],A0,?_⟩;refine s.store ag 1 i5 i5 3 [xU ka E.1.1,xU ka E.1.2.1,xU ka E.1.2.2,t] i5 i5 i5 js λz u=>⟨A0,?_⟩
  refine u.fM ag 1 i5 i5 [xU ka E.2] i5 i5 i5 js λx p=>⟨A0,t,?_⟩
  exact p.bO [1]
 .rintro _ A ⟨t,i⟩;refine⟨(E.2,cZ,cZ,E.1.1,E.1.2.1,E.1.2.2,t,0),(i.box 0 i5).aE _ i5,i.storeAll ag 0 i5 i5 (fI (E.2,cZ,cZ,E.1.1,E.1.2.1,E.1.2.2,t,0)) i5 i5 i5 i5 λI g=>?_⟩;exact⟨(E.2,cZ,cZ,E.1.1,E.1.2.1,E.1.2.2,t,0),(g.box 0 i5).aE _ i5,t,by rw[<-j],.zip g.ac⟩
end
end Go.Qw
