/- Lemmas for the proof of the law; no condition. -/
import Derived.Test.YtdibhfbogjngkaaGreatDoorKD
import Derived.Lib.BufferWrite
import Derived.Lib.UnsafeStr
set_option linter.unusedVariables false
set_option maxHeartbeats 2000000
set_option linter.unusedSimpArgs false
open Go.Proofs.Tryz renaming prog -> xt
open List renaming filter_congr -> vE, pairwise_lt_range -> yA, range -> qw, replicate -> qg
open Prod renaming fst -> qM
open Int renaming mul_assoc -> xc
open Go.Value renaming bool -> xm, int -> xi, pointer -> xk, slice -> xj, string -> xl
open Go.IntKind renaming i64 -> xo, u8 -> xp
set_option maxRecDepth 100000
open Option renaming some -> dB, none -> eH
open Bool renaming true -> eR, false -> eS
open List renaming length -> i0
namespace Go.Qw
open Go Go.Vc Go.Proofs Wl
theorem dZ.aeS{m:aE}{C:Int->ba}{ds:aF}(S:dZ m C ds){k:Int}{f d:bo}(b:aX ds k=dB f)(g:∀c∈d.l,eI m C c):dZ m C (bS ds k d):=
 ⟨S.may,by rw[sS];exact S.len,λj e a=>by
  rw[io S.len b]at a;split at a
  ·injection a with a;subst a;exact g
  ·exact S.cells j e a,S.ents⟩
structure Wn (p:Pm) (m:aE) (C:Int->ba) (ds:aF):Prop where
 sto:dZ m C ds
 live:aR ds m.drives≠[]
 dr:∀k∈m.drives,k<9
 pe:m.p=p
 wt:∀k d,aX ds k=dB d->d.wait=0
variable {p:Pm} {m:aE} {C:Int->ba} {ds:aF}
theorem agX{a:cw}{d:bo}(h:d.wait=0):(gv a d).wait=0:=by
 unfold gv;split
 ·exact h
 ·rfl
theorem aeT{d:bo}{n:Int}(h:d.wait=0):(cZ m d n).wait=0:=by
 unfold cZ;split
 ·exact h
 ·rfl
end Go.Qw
namespace Wl
end Wl
namespace Go.Qw
open Go Go.Vc Go.Proofs Wl
variable {p:Pm} {m:aE} {C:Int->ba} {ds ds':aF}
structure Pz (m:aE) (ds ds':aF) (gone:az):Prop where
 len:i0 ds'=64
 at_:∀k,k∉gone->aX ds' k=aX ds k
 live:∀k,k∈aR ds' m.drives↔k∈aR ds m.drives/\k∉gone
 sub:∀k∈gone,k∈aR ds m.drives
 nd:gone.Nodup
theorem Pz.start(h:i0 ds=64):Pz m ds ds []:=⟨h,λ_ _=>rfl,λk=>⟨λh=>⟨h,λh=>k5⟩,λh=>h.1⟩,λk a=>sz,List.nodup_nil⟩
theorem Pz.Cn{c:az}(G:Pz m ds ds' c){x:Int}(j:x∈aR ds' m.drives):(nR m 0 Pow.new ds' x).1=0/\Pz m ds (nR m 0 Pow.new ds' x).2 (c++[x]):=by
 obtain⟨t,d,o,n⟩:=gH j;obtain⟨r,h3⟩:=(G.live x).1 j;have e:nR m 0 Pow.new ds' x=(0,bS ds' x d.Cn):=by unfold nR;rw[g0 i6,g0 λh=>h j,o]
 rw[e];have g:=λs=>io (d:=d.Cn) G.len o s;refine⟨i4,by rw[sS];exact G.len,λk i=>?_,λk=>?_,λk i=>?_,?_⟩
 ·rw[g,g0 λh=>i (by rw[h];simp)];exact G.at_ k λh=>i sr
 ·rw[UF,g];by_cases f:k=x
  ·subst f;rw[f9 rfl];constructor
   ·rintro⟨_,e,l,n⟩;injection l with l
    subst l;cases n
   ·rintro⟨_,h⟩;exact absurd jj h
  ·rw[g0 f];have:=G.live k;rw[UF]at this;rw[this];simp[f]
 ·rcases qD.1 i with h|h
  ·exact G.sub k h
  ·rw[qx.1 h];exact r
 ·exact List.nodup_append.2 ⟨G.nd,jj,λa p b q e=>h3 (by rw[<-qx.1 q,<-e];exact p)⟩
theorem Vg{o b k:Int}(h:aX ds' k=aX ds k):fW m ds' o b k=fW m ds o b k:=by unfold fW;rw[h]
theorem oX{o b:Int}{live:az}{i:Nat}(a:i<i0 live):(cJ m ds o b live).getD i []=(fW m ds o b live[i]).map qM:=by rw[ge [] (by unfold cJ;rw[qA];exact a)];unfold cJ;rw[wx];unfold dN;rw[zg,zZ,qN]
end Go.Qw
namespace Go.Qw
open Go Go.Vc Go.Proofs Wl
theorem nD(W:bV)(a:az)(x:Int):∀k,x∈kQ W a k↔∃i,i<k/\(i:Int)∉a/\x∈W.getD i []
 |0=>by simp[kQ]
 |k+1=>by
  rw[kQ,qD,nD W a x k];constructor
  ·rintro(⟨i,e,b,h3⟩|h)
   ·exact⟨i,i5,b,h3⟩
   ·by_cases c:(k:Int)∈a
    ·rw[f9 c]at h;cases h
    ·rw[g0 c]at h;exact⟨k,i5,c,h⟩
  ·rintro⟨i,e,b,h3⟩;by_cases d:i=k
   ·subst d;exact .inr (by rw[g0 b];exact h3)
   ·exact .inl ⟨i,i5,b,h3⟩
theorem acD(p:Pm)(seed:Int){a b:az}(h:∀x∈a,x∈b):oH p seed a<=oH p seed b:=by
 unfold oH;refine GW (jN p seed a) (jN p seed b) λr c=>?_;unfold dP at c⊢;split at c
 ·rename_i e;rw[f9 e];rcases qD.1 c with c|c
  ·exact zn _ c
  ·obtain⟨i,d,rfl⟩:=qt.1 c;rw[qI]at d;exact zM _ (qt.2 ⟨i,qI.2 ⟨h i d.1,d.2⟩,i4⟩)
 ·cases c
theorem acE{p:Pm}{seed:Int}{W V:bV}{g g':az}(h:i0 W<=i0 V)(e:∀x∈g',x∈g)(c:∀i x,x∈W.getD i []->x∈V.getD i []):lT p seed W g<=lT p seed V g':=by unfold lT;refine acD p seed λx a=>?_;rw[nD]at a⊢;obtain⟨i,f,d,h3⟩:=a;exact⟨i,i5,λb=>d (e _ b),c i x h3⟩
theorem QS{p:Pm}{seed:Int}{W V:bV}{t:Nat}(a:i0 V=i0 W)(c:∀i x,x∈W.getD i []->x∈V.getD i [])(h:kR p seed W t=eH):kR p seed V t=eH:=by
 unfold kR at h⊢;rw[a];rw[z8]at h⊢;intro g b d;have f:(lT p seed W g:Int)=bE p:=by simpa using h g b
 have j:=acE (p:=p) (seed:=seed) (W:=W) (V:=V) (g:=g) (g':=g) i5 (λ_ h=>h) c;have h3:=adu p seed (kQ V g V.length);have e:(lT p seed V g:Int)≠bE p:=ii d;apply e;unfold lT at*;omega
variable {m:aE} {C:Int->ba} {ds:aF}
theorem aeU(f:bN m=eR){l l':cw}(d:∀c∈l',eI m C c)(h:∀c∈l,c∈l'){r:di}(e:r∈cU m l):r∈cU m l':=by obtain⟨a,b,c⟩:=kT e;exact nB f d (h _ a) b c
theorem Cg(i:bN m=eR){l:cw}(j:∀c∈l,eI m C c){r:di}:r∈cU m (bO m l)↔r∈cU m l:=by
 constructor
 ·intro g;obtain⟨a,b,c⟩:=kT g;rcases qD.1 a with h|h
  ·rw[th h]at b;cases b
  ·obtain⟨k,d,e⟩:=qt.1 h;obtain⟨_,f,_⟩:=kT d;rw[e,b]at f;injection f with f
   rw[f];exact d
 ·intro g;obtain⟨a,b,c⟩:=kT g;exact nB i (JA i j) (zM _ (qt.2 ⟨r,g,i4⟩)) b c
theorem ZK(r:di):oG r r=eR:=by rw[mf];exact⟨i4,i4,i4⟩
theorem Fk(l:cw):(cU m l).Nodup:=(WP m l).imp λh e=>by subst e;rw[ZK]at h;cases h
theorem JC{l l':cw}(h:∀r∈cU m l,r∈cU m l'):i0 (cU m l)<=i0 (cU m l'):=by
 letI:DecidableEq di:=λa b=>Classical.propDecidable _
 exact sV (Fk l) h
theorem mg(b:bN m=eR){l:cw}:jD m l=eR↔∀c∈bm m,c∈l:=by unfold jD;rw[b,zJ,qL];exact⟨λh c a=>ii (h c a),λh c a=>g9 (h c a)⟩
theorem oY(l:cw):i0 (bO m l)=i0 (bm m)+i0 (cU m l):=by unfold bO oB;rw[qy,qA]
structure DK (m:aE) (d d':bo):Prop where
 lost:d'.lost=d.lost
 room:d'.room=d.room
 recs:∀r∈cU m d.l,r∈cU m d'.l
 whole:jD m d.l=eR->jD m d'.l=eR
theorem DK.refl(d:bo):DK m d d:=⟨i4,i4,λ_ h=>h,λh=>h⟩
theorem DK.trans{a b c:bo}(d:DK m a b)(e:DK m b c):DK m a c:=⟨e.lost.trans d.lost,e.room.trans d.room,λr h=>e.recs r (d.recs r h),λh=>e.whole (d.whole h)⟩
structure iz (m:aE) (ds ds':aF):Prop where
 len:i0 ds'=i0 ds
 at_:∀k d,aX ds k=dB d->∃d',aX ds' k=dB d'/\DK m d d'
 no:∀k,aX ds k=eH->aX ds' k=eH
theorem iz.refl(ds:aF):iz m ds ds:=⟨i4,λ_ d h=>⟨d,h,.refl d⟩,λ_ h=>h⟩
theorem iz.trans{a b c:aF}(e:iz m a b)(f:iz m b c):iz m a c:=⟨f.len.trans e.len,λk d g=>by
 obtain⟨o,n,j⟩:=e.at_ k d g;obtain⟨l,p,i⟩:=f.at_ k o n;exact⟨l,p,j.trans i⟩,λk h=>f.no k (e.no k h)⟩
theorem iz.set{k:Int}{d e:bo}(a:i0 ds=64)(f:aX ds k=dB d)(h:DK m d e):iz m ds (bS ds k e):=⟨sS _ _ _,λs x b=>by
 rw[io a f];split
 ·rename_i c;subst c;rw[f]at b;injection b with b;subst b
  exact⟨_,i4,h⟩
 ·exact⟨x,b,.refl x⟩,λs c=>by
 rw[io a f];split
 ·rename_i h;subst h;rw[f]at c;cases c
 ·exact c⟩
theorem iz.live{ds':aF}(K:iz m ds ds')(l:az):aR ds' l=aR ds l:=by
 unfold aR;refine vE λx _=>?_;unfold isLive;cases hd:aX ds x with
 |none=>rw[K.no x hd]
 |some d=>
  obtain⟨a,e,k⟩:=K.at_ x d hd;rw[e];simp only[k.lost]
theorem iz.syms{ds':aF}(K:iz m ds ds'){o b k:Int}{id:Int}(h:id∈(fW m ds o b k).map qM):id∈(fW m ds' o b k).map qM:=by obtain⟨x,g,rfl⟩:=qt.1 h;obtain⟨d,r,c,a,f,i,rfl⟩:=Fg g;obtain⟨l,e,j⟩:=K.at_ k d c;refine qt.2 ⟨(r.id,r.data),?_,i4⟩;unfold fW;rw[e];exact qt.2 ⟨r,qI.2 ⟨j.recs r a,by rw[f,i];simp⟩,i4⟩
theorem XG(a:bN m=eR){d:bo}(b:∀c∈d.l,eI m C c):DK m d {d with l:=bO m d.l,wait:=0,laid:=[],has:=eS}:=
 ⟨i4,i4,λr h=>(Cg a b).2 h,λ_=>(mg a).2 λc h=>zn _ h⟩
structure Tidy (m:aE) (d:bo):Prop where
 whole:jD m d.l=eR
 keep:i0 (bO m d.l)<=i0 d.l
 room:i0 d.l<=d.room
theorem QU(a:bN m=eR){d:bo}(e:∀c∈d.l,eI m C c)(b:i0 (bO m d.l)<=d.room):Tidy m {d with l:=bO m d.l,wait:=0,laid:=[],has:=eS}:=
 ⟨(mg a).2 λc h=>zn _ h,by
  show(bO m (bO m d.l)).length<=i0 (bO m d.l);rw[oY,oY];exact Nat.add_le_add_left (JC λr h=>(Cg a e).1 h) _,b⟩
theorem oE{k:Int}{w:Pow}:∀{live:az} {w:Pow} {ds:aF},i0 ds=64->k∉live->aX (cM m live w ds).2.2 k=aX ds k
 |[],_,_,_,_=>rfl
 |j::live,w,ds,h64,hk=>by
  have b:k≠j:=λe=>hk (by rw[e];exact qH);have a:k∉live:=λh=>hk (qC _ h);unfold cM;cases hd:aX ds j with
  |none=>exact oE (w:=w) h64 a
  |some d=>
   dsimp only;split
   ·exact oE (w:=w) h64 a
   ·have e:aX (bS ds j (d.rewrite w (bO m d.l)).2.2) k=aX ds k:=by rw[io h64 hd,g0 b]
    split
    ·rw[oE (w:=w) (by rw[sS];exact h64) a,e]
    ·exact e
theorem xK:∀{live:az} {ds:aF},live.Nodup->dZ m C ds->(∀k∈live,∃d,aX ds k=dB d/\d.lost=eS)->(∀k d,aX ds k=dB d->i0 d.l<=d.room/\d.wait=0)->
  (cM m live Pow.new ds).2.1=Pow.new/\((cM m live Pow.new ds).1=0∨(cM m live Pow.new ds).1=7)/\dZ m C (cM m live Pow.new ds).2.2/\iz m ds (cM m live Pow.new ds).2.2/\
  (∀k d,aX (cM m live Pow.new ds).2.2 k=dB d->i0 d.l<=d.room/\d.wait=0)/\
  ((∀k d,aX ds k=dB d->k∈live->i0 (bO m d.l)<=d.room)->(cM m live Pow.new ds).1=0)/\
  ((cM m live Pow.new ds).1=0->∀k∈live,∀d,aX (cM m live Pow.new ds).2.2 k=dB d->Tidy m d)
 |[],ds,_,S,_,hw=>⟨i4,.inl i4,S,.refl _,hw,λ_=>rfl,λ_ k H=>by cases H⟩
 |k::live,ds,o,S,hlv,hw=>by
  obtain⟨i,o⟩:=List.nodup_cons.1 o;obtain⟨d,n,F⟩:=hlv k qH;have r:=S.cells k d n;have p:=λj f=>hlv j (qC _ f);unfold cM;rw[n];dsimp only;by_cases e:d.l=bO m d.l
  ·rw[f9 e];obtain⟨B,E,a3,a4,a5,v,z⟩:=xK (live:=live) o S p hw;refine⟨B,E,a3,a4,a5,λh=>v λj x a f=>h j x a (qC _ f),λh0 j f x a=>?_⟩;rcases qX.1 f with rfl|f
   ·rw[oE (w:=Pow.new) S.len i,n]at a;injection a with a
    subst a;exact⟨(mg S.may).2 λc r=>by rw[e];exact zn _ r,by rw[<-e];exact qk _,(hw j d n).1⟩
   ·exact z h0 j f x a
  ·rw[g0 e];by_cases u:i0 (bO m d.l)<=d.room
   ·have D:=AU jx (rH m d.l) F u;rw[D];dsimp only;rw[f9 rfl];have A:=XG S.may r;have G:dZ m C (bS ds k {d with l:=bO m d.l,wait:=0,laid:=[],has:=eS}):=S.aeS n (JA S.may r);have g:=λs=>io (d:={d with l:=bO m d.l,wait:=0,laid:=[],has:=eS}) S.len n s;have I:iz m ds (bS ds k {d with l:=bO m d.l,wait:=0,laid:=[],has:=eS}):=.set S.len n A;obtain⟨B,E,a3,a4,a5,v,z⟩:=xK (live:=live) o G (λj f=>by
     obtain⟨x,a,y⟩:=p j f;have q:j≠k:=λh=>i (by rw[<-h];exact f);exact⟨x,by rw[g,g0 q];exact a,y⟩) (λj x a=>by
     rw[g]at a;split at a
     ·injection a with a;subst a;exact⟨u,i4⟩
     ·exact hw j x a)
    refine⟨B,E,a3,I.trans a4,a5,λh=>v λj x a f=>?_,λh0 j f x a=>?_⟩
    ·have q:j≠k:=λh=>i (by rw[<-h];exact f);rw[g,g0 q]at a;exact h j x a (qC _ f)
    ·rcases qX.1 f with rfl|f
     ·rw[oE (w:=Pow.new) G.len i,g,f9 rfl]at a;injection a with a
      subst a;exact QU S.may r u
     ·exact z h0 j f x a
   ·have D:d.rewrite Pow.new (bO m d.l)=(7,Pow.new,d):=by unfold bo.rewrite;have t:(bO m d.l).all (λb=>decide (i0 b=64))=eR:=qL.2 λc h=>g9 (rH m d.l c h);rw[t,g0 i6,g0 (by rw[F];decide),f9 i5]
    rw[D];dsimp only;rw[g0 (show¬(7:Int)=0 by decide),QB n];exact⟨i4,.inr i4,S,.refl _,hw,λh=>absurd (h k d n qH) u,λh=>absurd h (show¬(7:Int)=0 by decide)⟩
structure Ob (m:aE) (C:Int->ba) (e:Wl.bM) (i:Nat) (x:iY):Prop where
 he:e∈m.aH
 hi:i<e.tries.length
 o:x.o=e.object
 b:x.b=i
 seed:x.seed=ce e.object i (e.tries.getD i 0)
 M:x.M=dt m.p x.seed (fp m C e.object i)
theorem Ob.Kz{e:Wl.bM}{i:Nat}{x:iY}(X:Ob m C e i x)(id:Nat):x.Kz m id=lj m e.object i (ce e.object i (e.tries.getD i 0)) (fp m C e.object i) id:=by unfold iY.Kz lj uI;rw[X.M,X.o,X.b,X.seed]
theorem QV(S:dZ m C ds){e:Wl.bM}(c:e∈m.aH){i:Nat}(d:i<e.tries.length){id:Nat}(hid:id<=65535):eI m C (cL (lj m e.object i (ce e.object i (e.tries.getD i 0)) (fp m C e.object i) id)):=by
 have b:=S.DW c d hid;have a:=tK b (lm _ _ _);refine⟨λr h=>?_,λr h _=>?_,λg h=>?_⟩
 ·rw[a]at h;injection h with h;subst h
  exact S.old c
 ·rw[a]at h;injection h with h;subst h
  rfl
 ·rw[NR b]at h;cases h
theorem QW{W:bV}:dC W<=i0 W.flatten:=by
 have h:=sV (l:=(qw (dC W)).map λi:Nat=>(i:Int)) (m:=W.flatten) (by
  rw[List.Nodup,yQ];exact yA.imp λh e=>i5) λx d=>by
   obtain⟨j,a,rfl⟩:=qt.1 d;have:=IG (qE.1 a);unfold mB at this;rw[zV]at this;obtain⟨l,b,c⟩:=this;exact List.mem_flatten.2 ⟨l,b,ii c⟩
 simpa using h
theorem Vh{W:bV}{c:Nat}(h:∀l∈W,i0 l<=c):i0 W.flatten<=i0 W*c:=by
 induction W with
 |nil=>simp
 |cons l W ih=>
  rw[List.flatten_cons,qy,zi,zG];have b:=h l qH;have d:=ih λz a=>h z (qC _ a);omega
theorem Ch{live:az}{s:Int}(h:s∈live):∃k:Nat,dD live s=k/\∃a:k<i0 live,live[k]=s:=by
 unfold dD;cases hx:live.idxOf? s with
 |none=>
  unfold List.idxOf? at hx;rw[List.findIdx?_eq_none_iff]at hx;have:=hx s h;simp at this
 |some k=>
  unfold List.idxOf? at hx;obtain⟨a,b,_⟩:=List.findIdx?_eq_some_iff_getElem.1 hx;exact⟨k,i4,a,k0⟩
def Oc(m:aE)(live:az)(ds:aF)(x:iY):Prop:=∀k (a:k<i0 live),∀id∈x.W.getD k [],id∈(fW m ds x.o x.b live[k]).map qM
theorem Oc.keep{live:az}{ds':aF}{x:iY}(h:Oc m live ds x)(K:iz m ds ds'):Oc m live ds' x:=λk a id hid=>K.syms (h k a id hid)
theorem WR(e:bN m=eR){d:bo}{c:ba}{g:di}(i:∀z∈d.l,eI m C z)(s:eI m C c)(o:eF c=dB g)(h:Tidy m d)(f:i0 d.l+1<=d.room)(n:Nat):Tidy m {d with l:=d.l++[c],wait:=n,laid:=[],has:=eS}:=by
 refine⟨(mg e).2 λz j=>zn _ ((mg e).1 h.whole z j),?_,i9⟩;show(bO m (d.l++[c])).length<=i0 (d.l++[c]);have k:=h.keep;rw[oY]at k⊢;have p:i0 (cU m (d.l++[c]))<=i0 (cU m d.l++[g]):=by
  letI:DecidableEq di:=λa b=>Classical.propDecidable _
  refine sV (Fk _) λr f=>?_;obtain⟨a,b,q⟩:=kT f;rcases qD.1 a with a|a
  ·exact zn _ (nB e i a b q)
  ·rw[qx.1 a,o]at b;injection b with b
   exact zM _ (by rw[b];simp)
 simp at p⊢;omega
theorem acF(a:bN m=eR){d:bo}{n:Int}(b:∀c∈d.l,eI m C c)(h:Tidy m d):Tidy m (cZ m d n):=by
 unfold cZ;split
 ·exact h
 ·exact QU a b (za h.keep h.room)
theorem agY(a:bN m=eR){d:bo}{n:Int}(b:∀c∈d.l,eI m C c):DK m d (cZ m d n):=by
 unfold cZ;split
 ·exact .refl d
 ·exact XG a b
structure mL (m:aE) (C:Int->ba) (live:az) (ds:aF) (got:az):Prop where
 sto:dZ m C ds
 lv:∀k∈live,∃d,aX ds k=dB d/\d.lost=eS
 wt:∀k d,aX ds k=dB d->d.wait=0∨k∈got
 tidy:∀k∈live,∀d,aX ds k=dB d->Tidy m d
 rm:∀k d,aX ds k=dB d->i0 d.l<=d.room/\d.room<=512
theorem CR{live set order:az}{c:ba}{id:Nat}{w:Pow}:∀l:List Nat,(fS m live set order c id w ds l).1=(7,w,ds)∨
  ∃i∈l,∃d,aX ds (dU order ((id:Int)+i))=dB d/\fy m d 1=eR/\fS m live set order c id w ds l=(iu m c w ds (dU order ((id:Int)+i)) d,dD live (dU order ((id:Int)+i)),dU order ((id:Int)+i))
 |[]=>.inl i4
 |i::l=>by
  unfold fS;dsimp only;have step:∀{P:Prop},(fS m live set order c id w ds l).1=(7,w,ds)∨(∃i∈l,∃d,aX ds (dU order ((id:Int)+i))=dB d/\fy m d 1=eR/\fS m live set order c id w ds l=(iu m c w ds (dU order ((id:Int)+i)) d,dD live (dU order ((id:Int)+i)),dU order ((id:Int)+i)))->
   (fS m live set order c id w ds l).1=(7,w,ds)∨(∃j∈i::l,∃d,aX ds (dU order ((id:Int)+j))=dB d/\fy m d 1=eR/\fS m live set order c id w ds l=(iu m c w ds (dU order ((id:Int)+j)) d,dD live (dU order ((id:Int)+j)),dU order ((id:Int)+j))):=λ{P} h=>by
    rcases h with h|⟨j,hj,r⟩
    ·exact .inl h
    ·exact .inr ⟨j,qC _ hj,r⟩
  cases hd:aX ds (dU order ((id:Int)+i))with
  |none=>exact step (P:=True) (CR l)
  |some d=>
   dsimp only;by_cases a:dD live (dU order ((id:Int)+i))∈set∨fy m d 1=eS
   ·rw[f9 a];exact step (P:=True) (CR l)
   ·rw[g0 a];exact .inr ⟨i,qH,d,hd,by cases hf:fy m d 1 with|true=>rfl|false=>exact absurd (.inr hf) a,rfl⟩
theorem QX{live set:az}{e:Wl.bM}{i:Nat}{x:iY}(am:live.length<=9)(Q:mL m C live ds x.got)(X:Ob m C e i x)(F:lV m live x)(O:Oc m live ds x):
  (dS m live set Pow.new ds x).2.1=Pow.new/\((dS m live set Pow.new ds x).1=0∨(dS m live set Pow.new ds x).1=7)/\iz m ds (dS m live set Pow.new ds x).2.2.1/\
  mL m C live (dS m live set Pow.new ds x).2.2.1 (dS m live set Pow.new ds x).2.2.2.got/\Ob m C e i (dS m live set Pow.new ds x).2.2.2/\Oc m live (dS m live set Pow.new ds x).2.2.1 (dS m live set Pow.new ds x).2.2.2:=by
 have v:dC x.W<=65535:=by
  have T:=QW (W:=x.W);have h2:=Vh (W:=x.W) (c:=4160) λl Z=>by have:=F.rl l Z;have:=F.gl;omega
  have h3:=F.wl;have h4:x.W.length*4160<=9*4160:=zt _ i5;omega
 have g:=Q.sto.counts X.he X.hi v;have I:=Q.sto.DW X.he X.hi v;have A:=QV Q.sto X.he X.hi v;obtain⟨p,u⟩:∃p,p=lj m e.object i (ce e.object i (e.tries.getD i 0)) (fp m C e.object i) (dC x.W):=⟨_,rfl⟩
 rw[<-u]at g I A;have P:=tK I (by rw[u];exact lm _ _ _);have Y:(cL p).length=64:=Ek I;have eP:dS m live set Pow.new ds x=(let r:=fS m live set (cQ x.o x.b live) (cL p) (dC x.W) Pow.new ds (qw (cQ x.o x.b live).length);(r.1.1,r.1.2.1,r.1.2.2,if r.1.1=0 then x.uL (dC x.W) r.2.1 r.2.2 else x)):=by rw[u,<-X.Kz];rfl
 rw[eP];dsimp only;obtain⟨o,ho⟩:∃o,o=cQ x.o x.b live:=⟨_,rfl⟩
 rw[<-ho];rcases CR (m:=m) (ds:=ds) (live:=live) (set:=set) (order:=o) (c:=cL p) (id:=dC x.W) (w:=Pow.new) (qw o.length)with h|⟨j,S,d,hd,hf,h⟩
 ·rw[h];dsimp only;rw[g0 (show¬(7:Int)=0 by decide)];exact⟨i4,.inr i4,.refl _,Q,X,O⟩
 obtain⟨s,hs⟩:∃s,s=dU o ((dC x.W:Int)+j):=⟨_,rfl⟩
 rw[<-hs]at hd h;have S:=qE.1 S;have G:s∈live:=by rw[hs];exact Fc (by rw[<-ho];exact Px (by intro h;rw[h]at S;simp at S))
 obtain⟨kk,ad,V,U⟩:=Ch G;have hc:=Q.sto.cells s d hd;obtain⟨r1,r2,r3⟩:=xH hf;have ea:iu m (cL p) Pow.new ds s d=(0,Pow.new,bS ds s {cZ m d 1 with l:=(cZ m d 1).l++[cL p],wait:=(cZ m d 1).wait+1,laid:=[],has:=eS}):=by unfold iu;rw[EY jx hf];dsimp only;rw[g0 λh=>h i4,CM (n:=0) jx r1 i5 Y];dsimp only;rw[rL]
 rw[h,ea];dsimp only;rw[f9 rfl];obtain⟨y,t⟩:∃y,y={cZ m d 1 with l:=(cZ m d 1).l++[cL p],wait:=(cZ m d 1).wait+1,laid:=[],has:=eS}:=⟨_,rfl⟩
 rw[<-t];have D:=Q.sto.may;have E:=Py D hc (N:=1);have R:∀c∈y.l,eI m C c:=λc f=>by
  rw[t]at f;rcases qD.1 f with f|f
  ·exact E c f
  ·rw[qx.1 f];exact A
 have H:DK m d y:=(agY D hc (n:=1)).trans (by
  rw[t];refine⟨i4,i4,λr hr=>aeU D (l:=(cZ m d 1).l) (l':=(cZ m d 1).l++[cL p]) (λc f=>by
   rcases qD.1 f with f|f
   ·exact E c f
   ·rw[qx.1 f];exact A) (λc f=>zn _ f) hr,λhw=>(mg D).2 λc f=>zn _ ((mg D).1 hw c f)⟩)
 have K:iz m ds (bS ds s y):=.set Q.sto.len hd H;have q:=λz=>io (d:=y) Q.sto.len hd z;have S':dZ m C (bS ds s y):=Q.sto.aeS hd R;have J:Tidy m y:=by rw[t];exact WR D E A P (acF D hc (Q.tidy s G d hd)) i5 _
 refine⟨i4,.inl i4,K,⟨S',λk B=>?_,λk z a=>?_,λk B z a=>?_,λk z a=>?_⟩,⟨X.he,X.hi,X.o,X.b,X.seed,X.M⟩,λk B id hid=>?_⟩
 ·rw[q];split
  ·exact⟨y,i4,by rw[H.lost];obtain⟨z,a,Z⟩:=Q.lv s G;rw[hd]at a;injection a with a;rw[a];exact Z⟩
  ·exact Q.lv k B
 ·show z.wait=0∨k∈x.got++[s]
  rw[q]at a;split at a
  ·rename_i B;rw[B];exact .inr jj
  ·rcases Q.wt k z a with h|h
   ·exact .inl h
   ·exact .inr (zn _ h)
 ·rw[q]at a;split at a
  ·injection a with a
   rw[<-a];exact J
  ·exact Q.tidy k B z a
 ·rw[q]at a;split at a
  ·injection a with a
   rw[<-a];exact⟨J.room,by rw[H.room];exact(Q.rm s d hd).2⟩
  ·exact Q.rm k z a
 ·have hid:id∈(x.W.set (dD live s).toNat (x.W.getD (dD live s).toNat []++[(dC x.W:Int)])).getD k []:=hid;rw[ad,qm]at hid;show id∈(fW m (bS ds s y) x.o x.b live[k]).map qM;have ah:kk<x.W.length:=by rw[F.wl];exact V
  by_cases L:k=kk
  ·subst L;rw[ge [] (by rw[List.length_set];exact ah),List.getElem_set_self]at hid;rcases qD.1 hid with T|T
   ·exact K.syms (O k B id T)
   ·rw[qx.1 T,U];refine qt.2 ⟨(p.id,p.data),?_,by rw[u];rfl⟩;unfold fW;rw[q,f9 rfl];refine qt.2 ⟨p,qI.2 ⟨nB D R (by rw[t];exact zM _ jj) P g,?_⟩,i4⟩;rw[X.o,X.b,u];show(decide (e.object=e.object)&&decide ((i:Int)=(i:Int)))=eR;simp
  ·rw[qe,zI λh=>L h.symm,<-qe]at hid;exact K.syms (O k B id hid)
end Go.Qw
namespace Go.Qw
open Go Go.Vc Go.Proofs Wl
variable {m:aE} {C:Int->ba} {ds:aF}
theorem QY{p:Pm}(b:bB p=eR){seed:Int}{W:bV}{t:Int}(a:0<=t/\t<=i0 W)(c:i0 W<=64)(d:¬hJ W.length t>4096):ir p seed W t=match kR p seed W t.toNat with|some g=>(g,eR,0)|none=>([],eS,0):=by unfold ir;rw[f9 b,f9 ⟨a.1,a.2,c⟩,g0 d];rfl
theorem Fl{live:az}{t most:Int}{e:Wl.bM}{i:Nat}(k:0<=t/\t<=i0 live)(b:i0 live<=9)(n:¬hJ live.length t>4096)(a:most<=64):∀(f:Nat) (ds:aF) (x:iY),mL m C live ds x.got->Ob m C e i x->lV m live x->Oc m live ds x->
  (cY m live t most f Pow.new ds x).2.1=Pow.new/\((cY m live t most f Pow.new ds x).1=0∨(cY m live t most f Pow.new ds x).1=7∨(cY m live t most f Pow.new ds x).1=12)/\iz m ds (cY m live t most f Pow.new ds x).2.2.1/\
  mL m C live (cY m live t most f Pow.new ds x).2.2.1 (cY m live t most f Pow.new ds x).2.2.2.got/\Ob m C e i (cY m live t most f Pow.new ds x).2.2.2/\lV m live (cY m live t most f Pow.new ds x).2.2.2/\Oc m live (cY m live t most f Pow.new ds x).2.2.1 (cY m live t most f Pow.new ds x).2.2.2/\
  ((cY m live t most f Pow.new ds x).1=0->kR m.p x.seed (cY m live t most f Pow.new ds x).2.2.2.W t.toNat=eH)/\
  (kR m.p x.seed x.W t.toNat=eH->0<f->cY m live t most f Pow.new ds x=(0,Pow.new,ds,x))
 |0,ds,x,Q,X,F,O=>⟨i4,.inr (.inr i4),.refl _,Q,X,F,O,λh=>absurd h (show¬(12:Int)=0 by decide),λ_ h=>absurd h i6⟩
 |f+1,ds,x,Q,X,F,O=>by
  have d:=QY Q.sto.rO (seed:=x.seed) (W:=x.W) (t:=t) ⟨k.1,by rw[F.wl];exact k.2⟩ p7 (by rw[F.wl];exact n);unfold cY;dsimp only;rw[d];cases hwk:kR m.p x.seed x.W t.toNat with
  |none=>
   dsimp only;rw[g0 λh=>h i4,f9 rfl];exact⟨i4,.inl i4,.refl _,Q,X,F,O,λ_=>hwk,λ_ _=>rfl⟩
  |some g=>
   dsimp only;rw[g0 λh=>h i4,g0 i6];by_cases o:(i0 x.got:Int)>=most
   ·rw[f9 o];exact⟨i4,.inr (.inr i4),.refl _,Q,X,F,O,λh=>absurd h (show¬(12:Int)=0 by decide),λh=>k5⟩
   ·rw[g0 o];obtain⟨l,r,a3,a4,a5,c⟩:=QX (set:=g) b Q X F O;have j:=(Fe (set:=g) (w:=Pow.new) (ds:=ds) F i5).1;obtain⟨q,D⟩:∃q,q=dS m live g Pow.new ds x:=⟨_,rfl⟩
    rw[<-D]at l r a3 a4 a5 c j⊢;by_cases h0:q.1≠0
    ·rw[f9 h0];exact⟨l,r.elim (λh=>absurd h h0) λh=>.inr (.inl h),a3,a4,a5,j,c,λh=>absurd h h0,λh=>k5⟩
    ·rw[g0 h0,l];obtain⟨A,u,z,s,E,v,B,b8,_⟩:=Fl k b n a f q.2.2.1 q.2.2.2 a4 a5 j c;have y:q.2.2.2.seed=x.seed:=by rw[a5.seed,X.seed]
     rw[y]at b8;exact⟨A,u,a3.trans z,s,E,v,B,b8,λh=>k5⟩
theorem mL.fit{live got:az}(Q:mL m C live ds got):Fit ds live []:=⟨Q.sto.len,λs b=>by
 obtain⟨d,a,c⟩:=Q.lv s b;exact⟨d,a,c,by have:=(Q.tidy s b d a).room;simp;omega⟩⟩
theorem mL.sync{live got:az}(Q:mL m C live ds got)(u:∀s∈got,s∈live)(o:∀s∈live,0<=s/\s<64):
  (eW (cA got) Pow.new ds).1=0/\(eW (cA got) Pow.new ds).2.1=Pow.new/\iz m ds (eW (cA got) Pow.new ds).2.2/\mL m C live (eW (cA got) Pow.new ds).2.2 []/\∀k,(aX (eW (cA got) Pow.new ds).2.2 k).map bo.l=(aX ds k).map bo.l:=by
 obtain⟨y,q,a3⟩:=EX jx (cA got) ds Q.fit λs t=>by
  unfold cA at t;exact u s (ii (qI.1 t).2)
 obtain⟨D,A⟩:∃D,D=(eW (cA got) Pow.new ds).2.2:=⟨_,rfl⟩
 rw[<-A]at q a3⊢;have g:∀k d,aX ds k=dB d->∃b,aX D k=dB b/\b.l=d.l/\b.room=d.room/\b.lost=d.lost/\(b.wait=0∨b.wait=d.wait/\k∉cA got):=λk d c=>by
  rw[a3,c];refine⟨_,i4,?_⟩;split
  ·exact⟨i4,i4,i4,.inl i4⟩
  ·exact⟨i4,i4,i4,.inr ⟨i4,n8⟩⟩
 have j:∀k,aX ds k=eH->aX D k=eH:=λk h=>by rw[a3,h];rfl
 have f:∀k b,aX D k=dB b->∃d,aX ds k=dB d:=λk b h=>by
  cases c:aX ds k with
  |none=>rw[j k c]at h;cases h
  |some d=>exact⟨d,i4⟩
 refine⟨y,EW jx _ _,⟨by rw[q.len,Q.sto.len],λk d c=>?_,j⟩,⟨⟨Q.sto.may,q.len,λk b a=>?_,Q.sto.ents⟩,λk p=>?_,λk b a=>?_,λk p b a=>?_,λk b a=>?_⟩,λk=>?_⟩
 ·obtain⟨b,e,i,n,h3,_⟩:=g k d c;exact⟨b,e,h3,n,λr v=>by rw[i];exact v,λh=>by rw[i];exact h⟩
 ·obtain⟨d,c⟩:=f k b a;obtain⟨z,e,i,_⟩:=g k d c;rw[a]at e;injection e with e;subst e
  rw[i];exact Q.sto.cells k d c
 ·obtain⟨d,c,w⟩:=Q.lv k p;obtain⟨b,e,_,_,h3,_⟩:=g k d c;exact⟨b,e,by rw[h3];exact w⟩
 ·obtain⟨d,c⟩:=f k b a;obtain⟨z,e,_,_,_,x⟩:=g k d c;rw[a]at e;injection e with e;subst e
  rcases x with h|⟨h,hn⟩
  ·exact .inl h
  ·rcases Q.wt k d c with h5|h5
   ·exact .inl (h.trans h5)
   ·exact absurd ((tz (o k (u k h5))).2 h5) hn
 ·obtain⟨d,c⟩:=f k b a;obtain⟨z,e,i,n,_,_⟩:=g k d c;rw[a]at e;injection e with e;subst e
  have:=Q.tidy k p d c;exact⟨by rw[i];exact this.whole,by rw[i];exact this.keep,by rw[i,n];exact this.room⟩
 ·obtain⟨d,c⟩:=f k b a;obtain⟨z,e,i,n,_,_⟩:=g k d c;rw[a]at e;injection e with e;subst e
  rw[i,n];exact Q.rm k d c
 ·cases c:aX ds k with
  |none=>rw[j k c]
  |some d=>
   obtain⟨b,e,i,_⟩:=g k d c;rw[e];simp[i]
structure oZ (m:aE) (live:az) (ds:aF) (t most:Int):Prop where
 lv:live=aR ds m.drives
 few:i0 live<=9
 tt:0<=t/\t<i0 live
 c:¬hJ live.length t>4096
 mo:0<=most/\most<=64
 slots:∀s∈live,0<=s/\s<64
def jr(m:aE)(live:az)(ds:aF)(t:Int)(e:Wl.bM)(i:Nat):Prop:=kR m.p (ce e.object i (e.tries.getD i 0)) (cJ m ds e.object i live) t.toNat=eH
theorem mh(m:aE)(ds:aF)(o b:Int)(live:az):i0 (cJ m ds o b live)=i0 live:=by unfold cJ;rw[qA]
theorem jr.keep{live:az}{ds':aF}{t:Int}{e:Wl.bM}{i:Nat}(h:jr m live ds t e i)(K:iz m ds ds'):jr m live ds' t e i:=by
 refine QS (by rw[mh,mh]) (λk x a=>?_) h;by_cases b:k<i0 live
 ·rw[oX b]at a⊢;exact K.syms a
 ·rw[qe,qV (by rw[mh];omega)]at a;cases a
theorem QZ{live:az}{t most:Int}{e:Wl.bM}{i:Nat}(Z:oZ m live ds t most)(S:dZ m C ds)(v:e∈m.aH)(y:i<e.tries.length)(u:∀k d,aX ds k=dB d->d.l.length<=512):
  ((eG m live ds e.object e.tries i).1=0∨(eG m live ds e.object e.tries i).1=11)/\
  ((eG m live ds e.object e.tries i).1=0->Ob m C e i (eG m live ds e.object e.tries i).2/\Oc m live ds (eG m live ds e.object e.tries i).2/\(eG m live ds e.object e.tries i).2.W=cJ m ds e.object i live)/\
  (jr m live ds t e i->(eG m live ds e.object e.tries i).1=0):=by
 have j:=S.iw v y;unfold Wl.iw at j;rw[<-Z.lv]at j;obtain⟨K,H,w,n,B⟩:=S.fP v y;have o:ik m.p (ce e.object i (e.tries.getD i 0)) (fp m C e.object i).length=0:=B.ik;unfold eG;dsimp only;rw[j,<-Z.lv];by_cases g:dK m.p (ce e.object i (e.tries.getD i 0)) (gx m ds e.object i)=eR
 ·rw[f9 g];dsimp only;rw[g0 λh=>h i4,g0 λh=>h o];refine⟨.inl i4,λ_=>⟨⟨v,y,i4,i4,i4,i4⟩,λk A id hid=>?_,i4⟩,λ_=>rfl⟩;dsimp only at hid⊢;rw[oX A]at hid;exact hid
 ·rw[g0 g];dsimp only;rw[f9 (show¬(9:Int)=0 by decide)];refine⟨.inr i4,λh=>absurd h (show¬(11:Int)=0 by decide),λs=>absurd ?_ g⟩;unfold jr at s;obtain⟨W,q⟩:∃W,W=cJ m ds e.object i live:=⟨_,rfl⟩
  rw[<-q]at s;have F:W.length=live.length:=by rw[q];exact mh _ _ _ _ _
  have f:ints (qw t.toNat)∈oK W.length t.toNat:=qt.2 ⟨_,KU jj (λx r=>by have:=qE.1 r;have:=Z.tt;omega) yA,i4⟩;have D:(lT m.p (ce e.object i (e.tries.getD i 0)) W (ints (qw t.toNat)):Int)=bE m.p:=by have:=z8.1 s _ f;simpa using this
  have a:dK m.p (ce e.object i (e.tries.getD i 0)) (kQ W (ints (qw t.toNat)) W.length)=eR:=by unfold dK;rw[S.rO,zJ];exact beq_iff_eq.2 D
  refine nA S.rO (λx r=>?_) a;obtain⟨k,A,_,b⟩:=(nD W _ x W.length).1 r;have c:k<live.length:=i5
  rw[q,oX c]at b;obtain⟨z,E,rfl⟩:=qt.1 b;unfold gx dN;exact qt.2 ⟨z,zD.2 ⟨live[k],by rw[<-Z.lv];exact qh c,E⟩,i4⟩
theorem KB{live:az}{t most:Int}{e:Wl.bM}{i:Nat}(Z:oZ m live ds t most)(Q:mL m C live ds [])(S:e∈m.aH)(H:i<e.tries.length):
  (cT m live t most Pow.new ds e i).2.1=Pow.new/\((cT m live t most Pow.new ds e i).1=0∨(cT m live t most Pow.new ds e i).1=7∨(cT m live t most Pow.new ds e i).1=11∨(cT m live t most Pow.new ds e i).1=12)/\iz m ds (cT m live t most Pow.new ds e i).2.2.1/\dZ m C (cT m live t most Pow.new ds e i).2.2.1/\mL m C live (cT m live t most Pow.new ds e i).2.2.1 []/\
  ((cT m live t most Pow.new ds e i).1=0->jr m live (cT m live t most Pow.new ds e i).2.2.1 t e i)/\
  (jr m live ds t e i->cT m live t most Pow.new ds e i=(0,Pow.new,ds,0)):=by
 have a:∀k d,aX ds k=dB d->d.l.length<=512:=λk d K=>by have:=Q.rm k d K;omega
 obtain⟨B,y,D⟩:=QZ Z Q.sto S H a;have v:=λh=>Fh (m:=m) (live:=live) (ds:=ds) (o:=e.object) (tries:=e.tries) (i:=i) a (by rw[<-Z.lv]) h;unfold cT;dsimp only;obtain⟨p,E⟩:∃p,p=eG m live ds e.object e.tries i:=⟨_,rfl⟩
 rw[<-E]at B y D v⊢;by_cases h0:p.1=0
 rotate_left
 ·rw[f9 h0];exact⟨i4,B.elim (λh=>absurd h h0) λh=>.inr (.inr (.inl h)),.refl _,Q.sto,Q,λh=>absurd h h0,λh=>absurd (D h) h0⟩
 rw[g0 λh=>h h0];obtain⟨X,O,L⟩:=y h0;obtain⟨F,f⟩:=v h0;have J:mL m C live ds p.2.got:=by rw[f];exact Q
 obtain⟨z,P,a3,a4,a5,g,w,A,a9⟩:=Fl (most:=most) ⟨Z.tt.1,by have:=Z.tt.2;omega⟩ Z.few Z.c Z.mo.2 65 ds p.2 J X F O;obtain⟨q,N⟩:∃q,q=cY m live t most 65 Pow.new ds p.2:=⟨_,rfl⟩
 rw[<-N]at z P a3 a4 a5 g w A a9⊢;rw[g0 i5,z];obtain⟨M,G,r,n,T⟩:=a4.sync (λs I=>g.gi s I) Z.slots;rw[M,g0 λh=>h rfl];dsimp only;refine⟨G,i5,a3.trans r,n.sto,n,λh=>?_,λh=>?_⟩
 ·have h8:=A h;rw[X.seed]at h8;refine QS (V:=cJ m (eW (cA q.2.2.2.got) Pow.new q.2.2.1).2.2 e.object i live) (by rw[mh,g.wl]) (λk x j=>?_) h8;by_cases u:k<live.length
  ·rw[oX u];have:=(w.keep r) k u x j;rw[a5.o,a5.b]at this;exact this
  ·rw[qe,qV (by rw[g.wl];omega)]at j;cases j
 ·have R:=a9 (by rw[L,X.seed];exact h) i6;rw[R,f];rfl
end Go.Qw
namespace Go.Qw
open Go Go.Vc Go.Proofs Wl
variable {m:aE} {C:Int->ba} {ds:aF}
theorem oZ.next{live:az}{ds':aF}{t most:Int}(Z:oZ m live ds t most)(K:iz m ds ds'):oZ m live ds' t most:=⟨by rw[K.live];exact Z.lv,Z.few,Z.tt,Z.c,Z.mo,Z.slots⟩
def okE(e:Int):Prop:=e=0∨e=7∨e=11∨e=12
theorem Ba{live:az}{t most:Int}{e:Wl.bM}(r:e∈m.aH):∀(l:List Nat) (ds:aF) (k:Nat),(∀i∈l,i<e.tries.length)->oZ m live ds t most->mL m C live ds []->
  (eV m live t most e l Pow.new ds k).2.1=Pow.new/\okE (eV m live t most e l Pow.new ds k).1/\iz m ds (eV m live t most e l Pow.new ds k).2.2.1/\mL m C live (eV m live t most e l Pow.new ds k).2.2.1 []/\
  ((eV m live t most e l Pow.new ds k).1=0->∀i∈l,jr m live (eV m live t most e l Pow.new ds k).2.2.1 t e i)/\
  ((∀i∈l,jr m live ds t e i)->eV m live t most e l Pow.new ds k=(0,Pow.new,ds,k))
 |[],ds,k,_,_,Q=>⟨i4,.inl i4,.refl _,Q,λ_ i y=>(by cases y),λ_=>rfl⟩
 |i::l,ds,k,hl,Z,Q=>by
  obtain⟨d,q,a3,a4,a5,g,c⟩:=KB Z Q r (hl i qH);unfold eV;dsimp only;obtain⟨b,u⟩:∃b,b=cT m live t most Pow.new ds e i:=⟨_,rfl⟩
  rw[<-u]at d q a3 a4 a5 g c⊢;by_cases h0:b.1=0
  rotate_left
  ·rw[f9 h0];exact⟨d,q,a3,a5,λh=>absurd h h0,λh=>absurd (by rw[c (h i qH)]) h0⟩
  rw[g0 λh=>h h0,d];obtain⟨w,x,c3,s,v,p⟩:=Ba r l b.2.2.1 (k+b.2.2.2) (λj a=>hl j (qC _ a)) (Z.next a3) a5;refine⟨w,x,a3.trans c3,s,λh j a=>?_,λh=>?_⟩
  ·rcases qX.1 a with rfl|a
   ·exact(g h0).keep c3
   ·exact v h j a
  ·have n:=c (h i qH);have o:b.2.2.1=ds:=by rw[n]
   have f:b.2.2.2=0:=by rw[n]
   rw[o,f,wV]at p;rw[o,f,wV];exact p λj a=>h j (qC _ a)
theorem Od{live:az}{t most:Int}:∀(l:List Wl.bM) (ds:aF) (k:Nat),(∀e∈l,e∈m.aH)->oZ m live ds t most->mL m C live ds []->
  (iy m live t most l Pow.new ds k).2.1=Pow.new/\okE (iy m live t most l Pow.new ds k).1/\iz m ds (iy m live t most l Pow.new ds k).2.2.1/\mL m C live (iy m live t most l Pow.new ds k).2.2.1 []/\
  ((iy m live t most l Pow.new ds k).1=0->∀e∈l,∀i<e.tries.length,jr m live (iy m live t most l Pow.new ds k).2.2.1 t e i)/\
  ((∀e∈l,∀i<e.tries.length,jr m live ds t e i)->iy m live t most l Pow.new ds k=(0,Pow.new,ds,k))
 |[],ds,k,_,_,Q=>⟨i4,.inl i4,.refl _,Q,λ_ i a=>sz,λ_=>rfl⟩
 |e::l,ds,k,hl,Z,Q=>by
  obtain⟨f,p,a3,a5,g,d⟩:=Ba (hl e qH) (qw e.tries.length) ds k (λi a=>qE.1 a) Z Q;unfold iy;dsimp only;obtain⟨b,u⟩:∃b,b=eV m live t most e (qw e.tries.length) Pow.new ds k:=⟨_,rfl⟩
  rw[<-u]at f p a3 a5 g d⊢;by_cases h0:b.1=0
  rotate_left
  ·rw[f9 h0];exact⟨f,p,a3,a5,λh=>absurd h h0,λh=>absurd (by rw[d λi a=>h e qH i (qE.1 a)]) h0⟩
  rw[g0 λh=>h h0,f];obtain⟨w,x,c3,r,v,o⟩:=Od l b.2.2.1 b.2.2.2 (λj c=>hl j (qC _ c)) (Z.next a3) a5;refine⟨w,x,a3.trans c3,r,λh j c=>?_,λh=>?_⟩
  ·rcases qX.1 c with rfl|c
   ·exactλi a=>(g h0 i (qE.2 a)).keep c3
   ·exact v h j c
  ·have n:=d λi a=>h e qH i (qE.1 a);have s:b.2.2.1=ds:=by rw[n]
   have q:b.2.2.2=k:=by rw[n]
   rw[s,q]at o⊢;exact o λj c=>h j (qC _ c)
theorem Oe{live:az}{t most:Int}(Z:oZ m live ds t most)(S:dZ m C ds)(j:∀k d,aX ds k=dB d->d.l.length<=d.room/\d.room<=512)(s:∀k d,aX ds k=dB d->d.wait=0):
  (fM m 0 Pow.new ds t most).2.2.1=Pow.new/\okE (fM m 0 Pow.new ds t most).2.1/\iz m ds (fM m 0 Pow.new ds t most).2.2.2/\dZ m C (fM m 0 Pow.new ds t most).2.2.2/\
  (∀k d,aX (fM m 0 Pow.new ds t most).2.2.2 k=dB d->d.l.length<=d.room/\d.wait=0)/\
  ((fM m 0 Pow.new ds t most).2.1=0->mL m C live (fM m 0 Pow.new ds t most).2.2.2 []/\∀e∈m.aH,∀i<e.tries.length,jr m live (fM m 0 Pow.new ds t most).2.2.2 t e i)/\
  ((∀k∈live,∀d,aX ds k=dB d->Tidy m d)->(∀e∈m.aH,∀i<e.tries.length,jr m live ds t e i)->(fM m 0 Pow.new ds t most).1=0/\(fM m 0 Pow.new ds t most).2.1=0):=by
 have g:∀k∈live,∃d,aX ds k=dB d/\d.lost=eS:=λk f=>(gH (by rw[<-Z.lv];exact f)).2;have r:live.Nodup:=by rw[Z.lv];exact nz (nE S.may)
 obtain⟨u,A,a3,a4,a5,y,z⟩:=xK r S g λk d a=>⟨(j k d a).1,s k d a⟩
 have M:=Z.tt;have E:=Z.c;have H:=Z.mo;have J:fM m 0 Pow.new ds t most=(let c:=cM m live Pow.new ds;if c.1≠0 then(0,c.1,c.2.1,c.2.2)else(let q:=iy m live t most m.aH c.2.1 c.2.2 0;(q.2.2.2,q.1,q.2.1,q.2.2.1))):=by unfold fM;rw[<-Z.lv,g0 i6,g0 i5,g0 E]
 rw[J];dsimp only;obtain⟨c,p⟩:∃c,c=cM m live Pow.new ds:=⟨_,rfl⟩
 rw[<-p]at u A a3 a4 a5 y z⊢;have b:∀k d,aX c.2.2 k=dB d->d.l.length<=d.room/\d.room<=512:=λk d a=>by
  refine⟨(a5 k d a).1,?_⟩;cases h:aX ds k with
  |none=>rw[a4.no k h]at a;cases a
  |some d0=>
   obtain⟨x,e,v⟩:=a4.at_ k d0 h;rw[a]at e;injection e with e;rw[e,v.room];exact(j k d0 h).2
 by_cases h0:c.1=0
 rotate_left
 ·rw[f9 h0];refine⟨u,A.elim (λh=>absurd h h0) λh=>.inr (.inl h),a4,a3,a5,λh=>absurd h h0,λh _=>absurd (y λk d a f=>?_) h0⟩;have:=h k f d a;exact za this.keep this.room
 rw[g0 λh=>h h0,u];have Q:mL m C live c.2.2 []:=⟨a3,λk f=>by
  obtain⟨d,a,D⟩:=g k f;obtain⟨x,e,v⟩:=a4.at_ k d a;exact⟨x,e,by rw[v.lost];exact D⟩,λk d a=>.inl (a5 k d a).2,λk f d a=>z h0 k f d a,b⟩
 obtain⟨I,B,G,o,K,F⟩:=Od m.aH c.2.2 0 (λe n=>n) (Z.next a4) Q;refine⟨I,B,a4.trans G,o.sto,λk d a=>⟨(o.rm k d a).1,?_⟩,λh=>⟨o,λe n i w=>K h e n i w⟩,λ_ h=>?_⟩
 ·rcases o.wt k d a with h|h
  ·exact h
  ·cases h
 ·have L:=F λe n i w=>(h e n i w).keep a4;rw[L];exact⟨i4,i4⟩
end Go.Qw
namespace Go.Qw
open Go Go.Vc Go.Proofs Wl
variable {m:aE} {C:Int->ba} {ds:aF}
def Roomy(m:aE)(G:az)(ds:aF)(k:Nat):Prop:=∀s∈G,∀d,aX ds s=dB d->i0 (bm m)+i0 (cU m d.l)+k<=d.room
theorem Roomy.le{G:az}{j k:Nat}(R:Roomy m G ds k)(h:j<=k):Roomy m G ds j:=λs b d a=>by have:=R s b d a;omega
def xL(p:Pm)(seed:Int)(live:az)(t:Nat)(G:az)(W:bV):Prop:=∀g∈oK live.length t,(∃s∈G,dD live s∉g)∨dK p seed (kQ W g live.length)=eR
theorem acG{W V:bV}{g:az}{n:Nat}(h:∀k x,x∈W.getD k []->x∈V.getD k []){x:Int}(c:x∈kQ W g n):x∈kQ V g n:=by obtain⟨k,a,b,h3⟩:=(nD W g x n).1 c;exact(nD V g x n).2 ⟨k,a,b,h k x h3⟩
theorem xL.more{p:Pm}(a:bB p=eR){seed:Int}{live:az}{t:Nat}{G:az}{W V:bV}(h:xL p seed live t G W)(b:∀k x,x∈W.getD k []->x∈V.getD k []):xL p seed live t G V:=λg d=>
 (h g d).elim .inl λh=>.inr (nA a (λ_ c=>acG b c) h)
theorem xL.get{p:Pm}(e:bB p=eR){seed:Int}{live:az}{t:Nat}{G g:az}{W:bV}(h:xL p seed live t G W)(d:i0 W=i0 live)(b:kR p seed W t=dB g):∃s∈G,dD live s∉g:=by
 unfold kR at b;have c:=List.mem_of_find?_eq_some b;have a:=List.find?_some b;rw[d]at c;rcases h g c with h|h
 ·exact h
 ·unfold dK at h;rw[e,zJ,beq_iff_eq]at h;unfold lT at a;rw[d,h]at a;simp at a
theorem acH{x:iY}{id:Nat}{k s:Int}(j:Nat)(y:Int)(h:y∈x.W.getD j []):y∈(x.uL id k s).W.getD j []:=by
 show y∈(x.W.set k.toNat (x.W.getD k.toNat []++[(id:Int)])).getD j [];by_cases a:k.toNat=j
 ·subst a;by_cases b:k.toNat<i0 x.W
  ·rw[qe,List.getElem?_set_self b];exact zn _ h
  ·rw[qe,qV i5]at h;cases h
 ·rw[qe,zI a,<-qe];exact h
theorem agZ{o:az}{s:Int}(h:s∈o)(id:Nat):∃j∈qw o.length,dU o ((id:Int)+(j:Nat))=s:=by
 obtain⟨q,a,rfl⟩:=List.mem_iff_getElem.1 h;have f:=yw id (show 0<i0 o by omega);refine⟨(q+(i0 o-id%i0 o))%i0 o,qE.2 (yw _ i5),?_⟩;unfold dU;rw[g0 λh=>h.elim (λh=>by rw[h]at a;simp at a) λh=>i5];have e:(id+(q+(i0 o-id%i0 o))%i0 o)%i0 o=q:=by
  rw[Nat.add_mod,Nat.mod_mod,<-Nat.add_mod];have d:=Nat.div_add_mod id o.length;have c:id+(q+(i0 o-id%i0 o))=q+i0 o*(id/i0 o+1):=by rw[Nat.mul_add,wF];omega
  rw[c,Nat.add_mul_mod_self_left,Nat.mod_eq_of_lt a]
 have b:(((id:Int)+((q+(i0 o-id%i0 o))%i0 o:Nat))%(i0 o:Int)).toNat=q:=by rw[<-Int.natCast_add,<-Int.natCast_emod,e];rfl
 rw[b];unfold Ju;rw[ge _ a]
theorem Fm{live set order:az}{c:ba}{id:Nat}{w:Pow}:∀l:List Nat,(∃i∈l,∃d,aX ds (dU order ((id:Int)+i))=dB d/\dD live (dU order ((id:Int)+i))∉set/\fy m d 1=eR)->
  ∃i∈l,∃d,aX ds (dU order ((id:Int)+i))=dB d/\fy m d 1=eR/\fS m live set order c id w ds l=(iu m c w ds (dU order ((id:Int)+i)) d,dD live (dU order ((id:Int)+i)),dU order ((id:Int)+i))
 |[],h=>by obtain⟨i,o,_⟩:=h;cases o
 |i::l,h=>by
  unfold fS;dsimp only;obtain⟨j,b,n,f,k,z3⟩:=h;cases hd:aX ds (dU order ((id:Int)+i))with
  |none=>
   dsimp only;rcases qX.1 b with rfl|b
   ·rw[f]at hd;cases hd
   ·obtain⟨a,g,r⟩:=Fm (live:=live) (set:=set) (c:=c) (w:=w) l ⟨j,b,n,f,k,z3⟩;exact⟨a,qC _ g,r⟩
  |some d=>
   dsimp only;by_cases e:dD live (dU order ((id:Int)+i))∈set∨fy m d 1=eS
   ·rw[f9 e];rcases qX.1 b with rfl|b
    ·rw[f]at hd;injection hd with hd;subst hd
     rcases e with h|h
     ·exact absurd h k
     ·rw[z3]at h;cases h
    ·obtain⟨a,g,r⟩:=Fm (live:=live) (set:=set) (c:=c) (w:=w) l ⟨j,b,n,f,k,z3⟩;exact⟨a,qC _ g,r⟩
   ·rw[g0 e];exact⟨i,qH,d,hd,by cases hf:fy m d 1 with|true=>rfl|false=>exact absurd (.inr hf) e,rfl⟩
theorem WS{d:bo}{c:ba}{s:Int}(b:fy m d 1=eR)(a:i0 c=64):iu m c Pow.new ds s d=(0,Pow.new,bS ds s {cZ m d 1 with l:=(cZ m d 1).l++[c],wait:=(cZ m d 1).wait+1,laid:=[],has:=eS}):=by obtain⟨e,g,f⟩:=xH b;unfold iu;rw[EY jx b];dsimp only;rw[g0 λh=>h i4,CM (n:=0) jx e i5 a];dsimp only;rw[rL]
theorem acI{d:bo}{k:Nat}(a:d.lost=eS)(h:i0 (bm m)+i0 (cU m d.l)+(k+1)<=d.room):fy m d 1=eR:=by unfold fy iB;rw[a,oY];simp only[Bool.not_false,zJ,Bool.or_eq_true,decide_eq_true_eq];omega
theorem aeV(e:bN m=eR){l:cw}{c:ba}(f:∀z∈l,eI m C z):i0 (cU m (l++[c]))<=i0 (cU m l)+1:=by
 letI:DecidableEq di:=λa b=>Classical.propDecidable _
 cases ht:eF c with
 |none=>
  refine Nat.le_succ_of_le (JC λr d=>?_);obtain⟨a,b,q⟩:=kT d;rcases qD.1 a with a|a
  ·exact nB e f a b q
  ·rw[qx.1 a,ht]at b;cases b
 |some r0=>
  have h:=sV (m:=cU m l++[r0]) (Fk (l++[c])) λr d=>by
   obtain⟨a,b,q⟩:=kT d;rcases qD.1 a with a|a
   ·exact zn _ (nB e f a b q)
   ·rw[qx.1 a,ht]at b;injection b with b
    exact zM _ (by rw[b];simp)
  simpa using h
theorem acJ(a:bN m=eR){d:bo}{n:Int}(b:∀c∈d.l,eI m C c):i0 (cU m (cZ m d n).l)<=i0 (cU m d.l):=by
 unfold cZ;split
 ·exact qk _
 ·exact JC λr h=>(Cg a b).1 h
theorem acK{live set G:az}{e:Wl.bM}{i k:Nat}{x:iY}(Z:live.length<=9)(Q:mL m C live ds x.got)(X:Ob m C e i x)(F:lV m live x)(K:live.Nodup)(J:∀k∈live,0<=k/\k<64)(Y:∀s∈G,s∈live)(R:Roomy m G ds (k+1))(H:∃s∈G,dD live s∉set):
  (dS m live set Pow.new ds x).1=0/\Roomy m G (dS m live set Pow.new ds x).2.2.1 k:=by
 have f:dC x.W<=65535:=by
  have h1:=QW (W:=x.W);have h2:=Vh (W:=x.W) (c:=4160) λl hl=>by have:=F.rl l hl;have:=F.gl;omega
  have h3:=F.wl;have h4:x.W.length*4160<=9*4160:=zt _ i5;omega
 have y:=Q.sto.DW X.he X.hi f;have E:=QV Q.sto X.he X.hi f;obtain⟨p,u⟩:∃p,p=lj m e.object i (ce e.object i (e.tries.getD i 0)) (fp m C e.object i) (dC x.W):=⟨_,rfl⟩
 rw[<-u]at y E;have B:(cL p).length=64:=Ek y;have eP:dS m live set Pow.new ds x=(let r:=fS m live set (cQ x.o x.b live) (cL p) (dC x.W) Pow.new ds (qw (cQ x.o x.b live).length);(r.1.1,r.1.2.1,r.1.2.2,if r.1.1=0 then x.uL (dC x.W) r.2.1 r.2.2 else x)):=by rw[u,<-X.Kz];rfl
 obtain⟨v,g,D⟩:=H;have h8:=Q.sto.acx X.he;have ad:=((iR m e).1 (Q.sto.entry X.he)).2.1;have ah:=((fg m).1 ((cF m).1 Q.sto.may).1).2.1;have hi:=X.hi;have L:v∈cQ x.o x.b live:=(Oa (by rw[X.o];omega) (by rw[X.b];omega) K J).2.mem_iff.2 (Y v g);obtain⟨j0,I,t⟩:=agZ L (dC x.W);obtain⟨T,q,P⟩:=Q.lv v (Y v g);obtain⟨j,hj,d,A,S,h⟩:=Fm (m:=m) (ds:=ds) (live:=live) (set:=set) (order:=cQ x.o x.b live) (c:=cL p) (id:=dC x.W) (w:=Pow.new) (qw (cQ x.o x.b live).length) ⟨j0,I,T,by rw[t];exact q,by rw[t];exact D,acI P (R v g T q)⟩;rw[eP];dsimp only;obtain⟨s,H⟩:∃s,s=dU (cQ x.o x.b live) ((dC x.W:Int)+j):=⟨_,rfl⟩
 rw[<-H]at A h;rw[h,WS S B];have U:=Q.sto.cells s d A;have O:=Q.sto.may;refine⟨i4,λz V d' a=>?_⟩;dsimp only at a;rw[io Q.sto.len A]at a;split at a
 ·rename_i M;injection a with a
  rw[<-a];have h1:=R z V d (by rw[M];exact A);have h2:=acJ (n:=1) O U;have h3:=aeV O (c:=cL p) (Py O U (N:=1));have h4:=(xH S).2.1;show(bm m).length+(cU m ((cZ m d 1).l++[cL p])).length+k<=(cZ m d 1).room;omega
 ·have:=R z V d' a;omega
theorem ZL{live G:az}{t most:Int}{e:Wl.bM}{i M:Nat}(z:0<=t/\t<=i0 live)(a:i0 live<=9)(E:¬hJ live.length t>4096)(S:most=(M:Nat))(c:most<=64)(n:live.Nodup)(l:∀k∈live,0<=k/\k<64)(I:∀s∈G,s∈live)(k:Nat):
  ∀(f:Nat) (ds:aF) (x:iY),mL m C live ds x.got->Ob m C e i x->lV m live x->Oc m live ds x->xL m.p x.seed live t.toNat G x.W->Roomy m G ds (k+(M-i0 x.got))->
  (cY m live t most f Pow.new ds x).1≠7/\Roomy m G (cY m live t most f Pow.new ds x).2.2.1 k:=by
 intro f
 induction f with
 |zero=>exactλds x Q X F O P R=>⟨λh=>absurd h (show¬(12:Int)=7 by decide),R.le i5⟩
 |succ f ih=>
  intro ds x Q X F O P R;have b:=QY Q.sto.rO (seed:=x.seed) (W:=x.W) (t:=t) ⟨z.1,by rw[F.wl];exact z.2⟩ p7 (by rw[F.wl];exact E);unfold cY;dsimp only;rw[b];cases hwk:kR m.p x.seed x.W t.toNat with
  |none=>
   dsimp only;rw[g0 λh=>h i4,f9 rfl];exact⟨show¬(0:Int)=7 by decide,R.le i5⟩
  |some g=>
   dsimp only;rw[g0 λh=>h i4,g0 i6];by_cases u:(i0 x.got:Int)>=most
   ·rw[f9 u];exact⟨show¬(12:Int)=7 by decide,R.le i5⟩
   ·rw[g0 u];obtain⟨A,N,a3,a4,a5,r⟩:=QX (set:=g) a Q X F O;obtain⟨v,D,_⟩:=Fe (set:=g) (w:=Pow.new) (ds:=ds) F i5;obtain⟨d,o⟩:=acK (set:=g) (k:=k+(M-(i0 x.got+1))) a Q X F n l I (R.le i5) (P.get Q.sto.rO F.wl hwk);obtain⟨q,L⟩:∃q,q=dS m live g Pow.new ds x:=⟨_,rfl⟩
    rw[<-L]at A N a3 a4 a5 r v D d o⊢;obtain⟨s,_,B⟩:=D d;rw[g0 λh=>h d,A];have H:q.2.2.2.seed=x.seed:=by rw[a5.seed,X.seed]
    refine ih q.2.2.1 q.2.2.2 a4 a5 v r (by rw[H];exact P.more Q.sto.rO λj y J=>by rw[B];exact acH j y J) ?_;have K:i0 q.2.2.2.got=i0 x.got+1:=by rw[B];show(x.got++[s]).length=_;simp
    rw[K];exact o
theorem acL{live:az}{t most:Int}{e:Wl.bM}{i:Nat}(Z:oZ m live ds t most)(S:dZ m C ds)(c:e∈m.aH)(d:i<e.tries.length)(f:dK m.p (ce e.object i (e.tries.getD i 0)) (gx m ds e.object i)=eR):(eG m live ds e.object e.tries i).1=0:=by have b:=S.iw c d;unfold Wl.iw at b;rw[<-Z.lv]at b;obtain⟨K,H,w,n,B⟩:=S.fP c d;have a:ik m.p (ce e.object i (e.tries.getD i 0)) (fp m C e.object i).length=0:=B.ik;unfold eG;dsimp only;rw[b,<-Z.lv,f9 f];dsimp only;rw[g0 λh=>h i4,g0 λh=>h a]
theorem WT{live G:az}{t most:Int}{e:Wl.bM}{i M k:Nat}(Z:oZ m live ds t most)(Q:mL m C live ds [])(L:most=(M:Nat))(K:∀s∈G,s∈live)(H:e∈m.aH)(w:i<e.tries.length)(J:dK m.p (ce e.object i (e.tries.getD i 0)) (gx m ds e.object i)=eR)
  (P:xL m.p (ce e.object i (e.tries.getD i 0)) live t.toNat G (cJ m ds e.object i live)) (R:Roomy m G ds (k+M)):
  ((cT m live t most Pow.new ds e i).1=0∨(cT m live t most Pow.new ds e i).1=12)/\Roomy m G (cT m live t most Pow.new ds e i).2.2.1 k:=by
 have a:∀k d,aX ds k=dB d->d.l.length<=512:=λk d f=>by have:=Q.rm k d f;omega
 obtain⟨o1,D,o3⟩:=QZ Z Q.sto H w a;have B:=λh=>Fh (m:=m) (live:=live) (ds:=ds) (o:=e.object) (tries:=e.tries) (i:=i) a (by rw[<-Z.lv]) h;have h0:=acL Z Q.sto H w J;unfold cT;dsimp only;obtain⟨p,I⟩:∃p,p=eG m live ds e.object e.tries i:=⟨_,rfl⟩
 rw[<-I]at o1 D o3 B h0⊢;rw[g0 λh=>h h0];obtain⟨X,O,N⟩:=D h0;obtain⟨F,g⟩:=B h0;have y:mL m C live ds p.2.got:=by rw[g];exact Q
 have u:live.Nodup:=by rw[Z.lv];exact nz (nE Q.sto.may)
 obtain⟨E,a2,a3,a4,a5,x,U,V,a9⟩:=Fl (most:=most) ⟨Z.tt.1,by have:=Z.tt.2;omega⟩ Z.few Z.c Z.mo.2 65 ds p.2 y X F O;obtain⟨S,v⟩:=ZL (most:=most) (M:=M) ⟨Z.tt.1,by have:=Z.tt.2;omega⟩ Z.few Z.c L Z.mo.2 u Z.slots K k 65 ds p.2 y X F O (by rw[N,X.seed];exact P) (by rw[g];exact R);obtain⟨q,W⟩:∃q,q=cY m live t most 65 Pow.new ds p.2:=⟨_,rfl⟩
 rw[<-W]at E a2 a3 a4 a5 x U V a9 S v⊢;rw[g0 i5,E];obtain⟨T,b2,A,b4,b5⟩:=a4.sync (λs r=>x.gi s r) Z.slots;rw[T,g0 λh=>h rfl];dsimp only;refine⟨i5,λs r d' b=>?_⟩;have n:=b5 s;cases f:aX q.2.2.1 s with
 |none=>rw[A.no s f]at b;cases b
 |some d=>
  obtain⟨z,j,Y⟩:=A.at_ s d f;rw[b]at j;injection j with j;subst j
  rw[b,f]at n;injection n with n
  rw[n,Y.room];exact v s r d f
theorem Vi{ds':aF}(K:iz m ds ds'){o b x:Int}(h:x∈gx m ds o b):x∈gx m ds' o b:=by unfold gx dN at h⊢;rw[K.live];obtain⟨z,d,rfl⟩:=qt.1 h;obtain⟨s,f,a⟩:=zD.1 d;obtain⟨y,e,c⟩:=qt.1 (K.syms (qt.2 ⟨z,a,rfl⟩));exact qt.2 ⟨y,zD.2 ⟨s,f,e⟩,c⟩
theorem ZM{live:az}{ds':aF}(K:iz m ds ds'){o b:Int}(k:Nat)(x:Int)(a:x∈(cJ m ds o b live).getD k []):x∈(cJ m ds' o b live).getD k []:=by
 by_cases c:k<i0 live
 ·rw[oX c]at a⊢;exact K.syms a
 ·rw[qe,qV (by rw[mh];omega)]at a;cases a
structure IS (m:aE) (live G:az) (ds:aF) (t:Int) (e:Wl.bM) (i:Nat):Prop where
 full:dK m.p (ce e.object i (e.tries.getD i 0)) (gx m ds e.object i)=eR
 spare:xL m.p (ce e.object i (e.tries.getD i 0)) live t.toNat G (cJ m ds e.object i live)
theorem IS.keep{live G:az}{ds':aF}{t:Int}{e:Wl.bM}{i:Nat}(h:IS m live G ds t e i)(b:bB m.p=eR)(K:iz m ds ds'):IS m live G ds' t e i:=
 ⟨nA b (λ_ a=>Vi K a) h.full,h.spare.more b λk x a=>ZM K k x a⟩
theorem IT{live G:az}{t most:Int}{M:Nat}{e:Wl.bM}(g:most=(M:Nat))(f:∀s∈G,s∈live)(d:e∈m.aH)(r:Nat):∀(l:List Nat) (ds:aF) (k:Nat),(∀i∈l,i<e.tries.length)->oZ m live ds t most->mL m C live ds []->
  (∀i∈l,IS m live G ds t e i)->Roomy m G ds (r+l.length*M)->
  ((eV m live t most e l Pow.new ds k).1=0∨(eV m live t most e l Pow.new ds k).1=12)/\Roomy m G (eV m live t most e l Pow.new ds k).2.2.1 r
 |[],ds,k,_,_,Q,_,R=>⟨.inl i4,R.le i5⟩
 |i::l,ds,k,hl,Z,Q,P,R=>by
  obtain⟨o,v,a3,a4,a5,p,u⟩:=KB Z Q d (hl i qH);have Pi:=P i qH;obtain⟨n,c⟩:=WT (k:=r+l.length*M) Z Q g f d (hl i qH) Pi.full Pi.spare (R.le (by rw[zi,zG];omega));unfold eV;dsimp only;obtain⟨b,q⟩:∃b,b=cT m live t most Pow.new ds e i:=⟨_,rfl⟩
  rw[<-q]at o v a3 a4 a5 p u n c⊢;by_cases h0:b.1=0
  rotate_left
  ·rw[f9 h0];exact⟨n,c.le i5⟩
  rw[g0 λh=>h h0,o];exact IT g f d r l b.2.2.1 (k+b.2.2.2) (λj a=>hl j (qC _ a)) (Z.next a3) a5 (λj a=>(P j (qC _ a)).keep Q.sto.rO a3) c
theorem Of{live G:az}{t most:Int}{M:Nat}(g:most=(M:Nat))(f:∀s∈G,s∈live)(r:Nat):∀(l:List Wl.bM) (ds:aF) (k:Nat),(∀e∈l,e∈m.aH)->oZ m live ds t most->mL m C live ds []->
  (∀e∈l,∀i<e.tries.length,IS m live G ds t e i)->Roomy m G ds (r+(l.map λe=>e.tries.length*M).sum)->
  ((iy m live t most l Pow.new ds k).1=0∨(iy m live t most l Pow.new ds k).1=12)/\Roomy m G (iy m live t most l Pow.new ds k).2.2.1 r
 |[],ds,k,_,_,Q,_,R=>⟨.inl i4,R.le i5⟩
 |e::l,ds,k,hl,Z,Q,P,R=>by
  obtain⟨o,v,a3,a5,p,u⟩:=Ba (hl e qH) (qw e.tries.length) ds k (λi a=>qE.1 a) Z Q;obtain⟨n,d⟩:=IT g f (hl e qH) (r+(l.map λe=>e.tries.length*M).sum) (qw e.tries.length) ds k (λi a=>qE.1 a) Z Q (λi a=>P e qH i (qE.1 a)) (R.le (by rw[List.map_cons,List.sum_cons,zx];omega));unfold iy;dsimp only;obtain⟨b,q⟩:∃b,b=eV m live t most e (qw e.tries.length) Pow.new ds k:=⟨_,rfl⟩
  rw[<-q]at o v a3 a5 p u n d⊢;by_cases h0:b.1=0
  rotate_left
  ·rw[f9 h0];exact⟨n,d.le i5⟩
  rw[g0 λh=>h h0,o];exact Of g f r l b.2.2.1 b.2.2.2 (λj c=>hl j (qC _ c)) (Z.next a3) a5 (λj c i a=>(P j (qC _ c) i a).keep Q.sto.rO a3) d
theorem Fo:∀{live:az} {ds:aF},dZ m C ds->(∀k∈live,∃d,aX ds k=dB d/\d.lost=eS)->∀s a,aX (cM m live Pow.new ds).2.2 s=dB a->∃d,aX ds s=dB d/\(cU m a.l).length<=i0 (cU m d.l)/\a.room=d.room
 |[],ds,_,_,s,a,h=>⟨a,h,qk _,i4⟩
 |k::live,ds,S,hlv,s,a,h=>by
  obtain⟨d,i,t⟩:=hlv k qH;have v:=S.cells k d i;have f:=λj q=>hlv j (qC _ q);unfold cM at h;rw[i]at h;dsimp only at h;by_cases e:d.l=bO m d.l
  ·rw[f9 e]at h;exact Fo S f s a h
  ·rw[g0 e]at h;by_cases y:i0 (bO m d.l)<=d.room
   ·rw[AU jx (rH m d.l) t y]at h;dsimp only at h;rw[f9 rfl]at h;have g:=λs=>io (d:={d with l:=bO m d.l,wait:=0,laid:=[],has:=eS}) S.len i s;obtain⟨x,n,w,h3⟩:=Fo (S.aeS i (d:={d with l:=bO m d.l,wait:=0,laid:=[],has:=eS}) (JA S.may v)) (λj q=>by
     obtain⟨x,A,u⟩:=f j q;by_cases p:j=k
     ·exact⟨{d with l:=bO m d.l,wait:=0,laid:=[],has:=eS},by rw[g,f9 p],t⟩
     ·exact⟨x,by rw[g,g0 p];exact A,u⟩) s a h
    rw[g]at n;split at n
    ·rename_i z;injection n with n
     subst n z;exact⟨d,i,za w (JC λr h=>(Cg S.may v).1 h),h3⟩
    ·exact⟨x,n,w,h3⟩
   ·have B:d.rewrite Pow.new (bO m d.l)=(7,Pow.new,d):=by unfold bo.rewrite;have o:(bO m d.l).all (λb=>decide (i0 b=64))=eR:=qL.2 λc h=>g9 (rH m d.l c h);rw[o,g0 i6,g0 (by rw[t];decide),f9 i5]
    rw[B]at h;dsimp only at h;rw[g0 (show¬(7:Int)=0 by decide),QB i]at h;exact⟨a,h,qk _,i4⟩
theorem Og{live G:az}{t most:Int}{M:Nat}(Z:oZ m live ds t most)(S:dZ m C ds)(J:most=(M:Nat))(H:∀s∈G,s∈live)(n:∀k d,aX ds k=dB d->d.l.length<=d.room/\d.room<=512)(v:∀k d,aX ds k=dB d->d.wait=0)
  (g:∀k∈live,∀d,aX ds k=dB d->(bm m).length+(cU m d.l).length<=d.room) (P:∀e∈m.aH,∀i<e.tries.length,IS m live G ds t e i) (R:Roomy m G ds (m.aH.map λe=>e.tries.length*M).sum):
  (fM m 0 Pow.new ds t most).2.1=0∨(fM m 0 Pow.new ds t most).2.1=12:=by
 have f:∀k∈live,∃d,aX ds k=dB d/\d.lost=eS:=λk g=>(gH (by rw[<-Z.lv];exact g)).2;have u:live.Nodup:=by rw[Z.lv];exact nz (nE S.may)
 obtain⟨A,L,a3,a4,a5,y,z⟩:=xK u S f λk d a=>⟨(n k d a).1,v k d a⟩
 have T:=Z.tt;have F:=Z.c;have I:=Z.mo;have N:fM m 0 Pow.new ds t most=(let c:=cM m live Pow.new ds;if c.1≠0 then(0,c.1,c.2.1,c.2.2)else(let q:=iy m live t most m.aH c.2.1 c.2.2 0;(q.2.2.2,q.1,q.2.1,q.2.2.1))):=by unfold fM;rw[<-Z.lv,g0 i6,g0 i5,g0 F]
 have j:=Fo (live:=live) S f;rw[N];dsimp only;obtain⟨c,o⟩:∃c,c=cM m live Pow.new ds:=⟨_,rfl⟩
 rw[<-o]at A L a3 a4 a5 y z j⊢;have h0:c.1=0:=y λk d a w=>by rw[oY];exact g k w d a
 have b:∀k d,aX c.2.2 k=dB d->d.l.length<=d.room/\d.room<=512:=λk d a=>by
  obtain⟨p,r,_,h3⟩:=j k d a;exact⟨(a5 k d a).1,by rw[h3];exact(n k p r).2⟩
 rw[g0 λh=>h h0,A];have Q:mL m C live c.2.2 []:=⟨a3,λk g=>by
  obtain⟨d,a,D⟩:=f k g;obtain⟨B,e,K⟩:=a4.at_ k d a;exact⟨B,e,by rw[K.lost];exact D⟩,λk d a=>.inl (a5 k d a).2,λk g d a=>z h0 k g d a,b⟩
 exact(Of J H 0 m.aH c.2.2 0 (λe x=>x) (Z.next a4) Q (λe x i O=>(P e x i O).keep S.rO a4) λs E d a=>by
  obtain⟨p,r,U,h3⟩:=j s d a;have:=R s E p r;omega).1
end Go.Qw
namespace Go.Qw
open Go Go.Vc Go.Proofs Wl
variable {m:aE} {C:Int->ba} {ds:aF}
theorem acM{live:az}{s r:Int}(c:s∈live)(b:r∈live)(e:dD live s=dD live r):s=r:=by
 obtain⟨k,f,g,h3⟩:=Ch c;obtain⟨j,h,i,d⟩:=Ch b;have a:k=j:=i5
 subst a;rw[<-h3,d]
theorem acN{p:Pm}{seed:Int}{live:az}{t:Nat}(f:live.Nodup)(r:t<i0 live)(W:bV):xL p seed live t live W:=λg j=>.inl<|Classical.byContradiction λh=>by
 have i:∀s∈live,dD live s∈g:=λs a=>Classical.byContradiction λb=>h ⟨s,a,b⟩;obtain⟨s,a,rfl⟩:=qt.1 j;have q:=(Ak a).1;have b:(live.map (dD live)).Nodup:=yQ.2 (List.Pairwise.imp_of_mem (λl o d e=>d (acM l o e)) f);have c:=sV (m:=ints s) b λx n=>by
  obtain⟨y,k,rfl⟩:=qt.1 n;exact i y k
 rw[qA]at c;unfold ints at c;rw[qA]at c;omega
theorem acO{p:Pm}(a:bB p=eR){seed:Int}{W:bV}{t:Nat}(h:kR p seed W t=eH){g:az}(c:g∈oK W.length t):dK p seed (kQ W g W.length)=eR:=by
 unfold kR at h;have b:(lT p seed W g:Int)=bE p:=by simpa using z8.1 h g c
 unfold dK;rw[a,zJ];exact beq_iff_eq.2 b
theorem aha{n cells:Nat}(v:n<64)(o:i0 ds=64)(t:i0 (bm m)<=cells):
  (layAll (bt m [(n:Int)]) Pow.new (ds.set n (dB (bo.new cells)))).1=0/\(layAll (bt m [(n:Int)]) Pow.new (ds.set n (dB (bo.new cells)))).2.1=Pow.new/\
   (layAll (bt m [(n:Int)]) Pow.new (ds.set n (dB (bo.new cells)))).2.2.length=64/\∀k,aX (layAll (bt m [(n:Int)]) Pow.new (ds.set n (dB (bo.new cells)))).2.2 k=if k=(n:Int)then dB ⟨cells,bm m,0,[],eS,eS⟩else aX ds k:=by
 have f:∀k,aX (ds.set n (dB (bo.new cells))) k=if k=(n:Int)then dB (bo.new cells)else aX ds k:=λk=>by
  have:=xU ds n (bo.new cells) k v o;unfold bS at this;rw[qm]at this;exact this
 have a:∀x∈bt m [(n:Int)],x.1=(n:Int):=λx b=>qx.1 (jb b).1;have F:Fit (ds.set n (dB (bo.new cells))) [(n:Int)] ((bt m [(n:Int)]).map qM):=⟨by simp[o],λs l=>by
  rw[qx.1 l];refine⟨bo.new cells,by rw[f,f9 rfl],i4,?_⟩;rw[Gc];simp[bo.new,t]⟩
 obtain⟨w,y,a3⟩:=Ux jx (S:=[(n:Int)]) _ _ F λx b=>jb b;have r:((bt m [(n:Int)]).filter λx=>decide (x.1=(n:Int))).map Prod.snd=bm m:=by rw[List.filter_eq_self.2 λx b=>g9 (a x b)];unfold bt;rw[zg,zZ,qN,List.map_map];exact List.map_id _
 refine⟨w,Uw jx _ _,y.len,λk=>?_⟩;rw[a3];unfold Jw;rw[f];by_cases g:k=(n:Int)
 ·subst g;rw[f9 i4,f9 i4,qT,qT,r];by_cases i:bm m=[]
  ·have q:bt m [(n:Int)]=[]:=by unfold bt;rw[i];rfl
   rw[i,q];simp[bo.new,cA]
  ·obtain⟨c,u⟩:=List.exists_mem_of_ne_nil _ i;rw[f9 ((tz i5).2 (qt.2 ⟨((n:Int),c),by unfold bt;simp[u],i4⟩))];simp[bo.new]
 ·rw[g0 g,g0 g];have j:(bt m [(n:Int)]).filter (λx=>decide (x.1=k))=[]:=List.filter_eq_nil_iff.2 λx b h=>g (by rw[<-a x b];exact(ii h).symm);rw[j];cases aX ds k with
  |none=>rfl
  |some d=>
   rw[qT,qT,g0]
   ·simp
   ·intro p;unfold cA at p;obtain⟨x,b,e⟩:=qt.1 (ii (qI.1 p).2);exact g (by rw[<-e,a x b])
theorem Oh{b:aF}{live:az}{x:Int}{e:bo}(a:live=aR ds m.drives)(i:x∈live)(c:e.lost=eS)(j:∀k,aX b k=if k=x then dB e else aX ds k):aR b m.drives=live:=by
 rw[a];unfold aR;refine vE λy _=>?_;unfold isLive;rw[j];by_cases f:y=x
 ·subst f;obtain⟨d,g,h⟩:=(gH (show y∈aR ds m.drives by rw[<-a];exact i)).2;rw[f9 i4,g];simp only[h,c]
 ·rw[g0 f]
theorem acP{b:aF}{live:az}{x:Int}{G:bo}(H:bN m=eR)(f:live=aR ds m.drives)(E:x∈live)(w:G.lost=eS)(F:∀k,aX b k=if k=x then dB G else aX ds k){e:Wl.bM}{i:Nat}(J:jr m live ds 1 e i):IS m live [x] b 1 e i:=by
 have s:bB m.p=eR:=((fg m).1 ((cF m).1 H).1).2.2.1;have v:live.Nodup:=by rw[f];exact nz (nE H)
 have I:=Oh f E w F;obtain⟨j,B,o,A⟩:=Ch E;have sub:∀{g:az},dD live x∈g->∀z,z∈kQ (cJ m ds e.object i live) g live.length->∃k,k<live.length/\(k:Int)∉g/\z∈(cJ m b e.object i live).getD k []:=λ{g} d z l=>by
  obtain⟨k,c,r,h3⟩:=(nD _ g z _).1 l;refine⟨k,c,r,?_⟩;rw[oX c]at h3⊢;have u:live[k]≠x:=λh=>r (by
   have q:=List.pairwise_iff_getElem.1 v;have D:live[k]=live[j]:=h.trans A.symm;have:k=j:=by
    rcases Nat.lt_trichotomy k j with h|h|h
    ·exact absurd D (q k j c o h)
    ·exact h
    ·exact absurd D.symm (q j k o c h)
   rw[this,<-B];exact d)
  rw[Vg (ds':=b) (ds:=ds) (by rw[F,g0 u])];exact h3
 have a:∀{g:az},g∈oK live.length 1->dK m.p (ce e.object i (e.tries.getD i 0)) (kQ (cJ m ds e.object i live) g live.length)=eR:=λ{g} d=>by
  have:=acO s J (g:=g) (by rw[mh];exact d);rw[mh]at this;exact this
 refine⟨?_,λg d=>?_⟩
 ·have d:ints [j]∈oK live.length 1:=qt.2 ⟨_,KU jj (λy t=>by rw[qx.1 t];omega) jj,i4⟩;refine nA s (λz l=>?_) (a d);obtain⟨k,c,_,h3⟩:=sub (g:=ints [j]) (by rw[B];simp[ints]) z l;rw[oX c]at h3;obtain⟨y,t,rfl⟩:=qt.1 h3;unfold gx dN;exact qt.2 ⟨y,zD.2 ⟨live[k],by rw[I];exact qh c,t⟩,i4⟩
 ·by_cases n:dD live x∈g
  ·refine .inr (nA s (λz l=>?_) (a d));obtain⟨k,c,r,h3⟩:=sub n z l;exact(nD _ g z _).2 ⟨k,c,r,h3⟩
  ·exact .inl ⟨x,jj,n⟩
theorem acQ{ds':aF}(K:iz m ds ds')(c:bB m.p=eR){e:Wl.bM}(h:uN m ds e=eR):uN m ds' e=eR:=by
 unfold uN at h⊢;rw[qz]at h⊢;refine⟨?_,qL.2 λi l=>nA c (λ_ j=>Vi K j) (qL.1 h.2 i l)⟩;have b:=h.1;unfold nC at b⊢;rw[K.live];obtain⟨k,g,a⟩:=zV.1 b;refine zV.2 ⟨k,g,?_⟩;unfold DV at a⊢;cases hd:aX ds k with
 |none=>rw[hd]at a;cases a
 |some d=>
  rw[hd]at a;obtain⟨n,e,f⟩:=K.at_ k d hd;rw[e];exact f.whole a
end Go.Qw
namespace Go.Qw
open Go Go.Vc Go.Proofs Wl
theorem acR{m n:aE}{ds:aF}{t:az}{b:ba}{k:Int}{d:bo}{c:Nat}(e:bN m=eR)(a:bN n=eR)(f:i0 (splitB m.p b)<=c):
  (oL m ds t b n k d).l.length<=18+i0 d.l+c*(m.p.1+m.extra).toNat/\(oL m ds t b n k d).room=d.room:=by
 unfold oL;split
 ·rw[NE,(ut _ _).2,<-LC];have g:=acA (m:=m) (t:=t) (b:=b) (live:=aR ds m.drives) (k:=k) (nb:=i0 (splitB m.p b));have h:=zt (m.p.1+m.extra).toNat f;have h3:=IB e;have i:=IB a;have j:=me m d.l;rw[qy,qy];unfold cZ;split
  ·exact⟨i5,i4⟩
  ·refine⟨?_,i4⟩;show(bO m d.l).length+_<=_;rw[oY];omega
 ·exact⟨i5,i4⟩
structure One (m0:aE) (name:ByteArray) (b:ba) (R c:Nat) (m:aE) (C:Int->ba) (ds:aF) (t:az):Prop where
 aH:m.aH=[⟨name,m0.next,i0 b,t⟩]
 tl:i0 t=i0 (splitB m0.p b)
 p:m.p=m0.p
 extra:m.extra=m0.extra
 drives:m.drives=m0.drives
 sto:dZ m C ds
 full:Full m C ds
 row:∀k d,aX ds k=dB d->d.wait=0/\d.room=R/\d.l.length<=27+c*(m0.p.1+m0.extra).toNat
 data:C m0.next=b
theorem ahb{a:aE}{C:Int->ba}{D:aF}{R c:Nat}(S:dZ a C D)(F:Full a C D)(r:a.aH=[])(o:∀k d,aX D k=dB d->d.wait=0/\d.room=R/\d.l.length<=9)(name:ByteArray)(b:ba)(j:i0 (splitB a.p b)<=c):
  (∃e,e≠0/\im a 0 Pow.new D name b=(e,a,Pow.new,D))∨∃t m ds,im a 0 Pow.new D name b=(0,m,Pow.new,ds)/\One a name b R c m (jM C a.next b) ds t:=by
 rcases agT (offs:=0) (w:=Pow.new) (name:=name) (b:=b) jx S with⟨h,_⟩|⟨hr,t,ds',ht,h,S',hat⟩
 ·exact .inl h
 ·refine .inr ⟨t,_,ds',h,?_,jc ht,i4,i4,i4,S',F.put S hr ht S' hat,λk d f=>?_,by unfold jM;rw[f9 rfl]⟩
  ·show(a.aH++[(⟨name,a.next,i0 b,t⟩:Wl.bM)]).mergeSort tf=_;rw[r,List.nil_append,List.mergeSort_singleton]
  ·rw[hat]at f;cases h0:aX D k with
   |none=>rw[h0]at f;cases f
   |some d0=>
    rw[h0]at f;injection f with f
    obtain⟨g,q,a3⟩:=o k d0 h0;obtain⟨s,i⟩:=acR (m:=a) (n:=eZ a ⟨name,a.next,i0 b,t⟩) (ds:=D) (t:=t) (b:=b) (k:=k) (d:=d0) S.may S'.may j;rw[<-f];refine⟨?_,i.trans q,i5⟩;unfold oL;split
    ·exact agX (aeT g)
    ·exact g
theorem One.can{d:aE}{name:ByteArray}{b:ba}{R c:Nat}{m:aE}{C:Int->ba}{ds:aF}{t:az}(O:One d name b R c m C ds t)(a:m.drives≠[]){e:Wl.bM}(f:e∈m.aH){i:Nat}(g:i<e.tries.length):dK m.p (ce e.object i (e.tries.getD i 0)) (gx m ds e.object i)=eR:=by have h:=O.full.can O.sto a f;unfold uN at h;exact qL.1 (qz _ _|>.mp h).2 i (qE.2 g)
section
theorem KC{p:Pm}{E:Int}{c:Nat}{x:Int}{m:aE}{D:aF}(F:JB p E c x m D):∀k∈aR D m.drives,∀d,aX D k=dB d->d.l=bO m d.l:=λk b d a=>by
 rw[F.live]at b;rw[F.at_,f9 b]at a;injection a with a
 subst a;show bm m=bO m (bm m);unfold bO oB;rw[Wm];simp
theorem Vj(h:Heap):ab xt 14 #[] h λv h'=>v=xm eR/\Sp h h' []:=by
 refine xA ?_;unfold nU;refine(Ia h).mono ?_;rintro _ t ⟨pw,rfl,n⟩;refine⟨_,i4,n.lit ac aq gm i4 [5] i4 (show 1*1<=2^20 by decide) i4 λf u q=>?_⟩;have g:bB (1,1,1)=eR:=i6
 refine(NG (1,1,1) 0 f [5] (As:=[al 3 f 1 aq [5]]) (St.fj 0 i4 λh' i=>i.1.seq (λ_=>rfl) i.2) i6 (acC g i6 1 5 i6 i6) i4 q).mono ?_;rintro _ h3 ⟨a,da,D,rfl,l,s,d⟩;have F:=aeQ (c:=1) (x:=5) g i6 i6 i6 l s;obtain⟨m,j⟩:∃m,m=ck (1,1,1) 0 (qg 1 5):=⟨_,rfl⟩
 rw[<-j]at F;have d:Sp h h3 [bI a pw da 0 Pow.new D m,al 3 f 1 aq [5]]:=by rw[j];exact d
 have b:i0 (aR D m.drives)=1:=by rw[F.live,F.dr];rfl
 have r:nO m 0 Pow.new D 0 0=0:=by unfold nO;rw[g0 i6,b,g0 i6,g0 i6]
 have p:nO m 0 Pow.new D 1 0=1:=by unfold nO;rw[g0 i6,b,f9 i6]
 refine⟨(dB a,0),i4,(Kx 0 0 F.may F.aH.1 (KC F) i6 d).mono ?_⟩;rintro _ w ⟨rfl,k⟩;rw[r];refine⟨(0,0),i4,(Kx 1 0 F.may F.aH.1 (KC F) i6 k).mono ?_⟩;rintro _ y ⟨rfl,o⟩;rw[p];exact⟨(0,1),i4,de (λ_=>de (λ_=>de (λ_=>⟨i4,.zip o.ag⟩) λe=>absurd i4 e) λe=>absurd i4 e) λe=>absurd i4 e⟩
end
theorem PA{a:Nat}:∀{l:cw},(∀x∈l,i0 x=a)->i0 l.flatten=i0 l*a
 |[],_=>jj
 |x::l,h=>by
  rw[List.flatten_cons,qy,h x qH,PA λy b=>h y (qC _ b),zi,zG];omega
theorem ZN(p:Pm)(l:Sl)(c:cw)(n:Int)(h:Heap)(M:fO h l 1 aD c)(hn:n<=2^20)(ad:i0 c<=2^10):
  ab xt 94 #[lu p,l,xi xo n] h λv h'=>∃(r:Sl) (b:Bool),v=.tuple #[r,xm b]/\Sp h h' [EA (cu 1 aD) r (nQ p c n)]:=by
 refine ON p l n ?_;unfold Hu;have s:=M.len;refine(Sp.refl h).boxed λH N B=>?_;have B:Sp h N [ao H 24 [xi xo p.1,xi xo p.2.1,xi xo p.2.2]]:=B;have g:∀{h':Heap},Sp h h' [ao H 24 [xi xo p.1,xi xo p.2.1,xi xo p.2.2]]->nQ p c n=[]->∃(r:Sl) (b:Bool),(.tuple #[xj eH 0 0,xm eS]:Value)=.tuple #[r,xm b]/\Sp h h' [EA (cu 1 aD) r (nQ p c n)]:=λY he=>by
  rw[he];exact⟨⟨eH,0,0⟩,eS,i4,(((Y.nil 5 1 aD).cE [1]).Bz 0 i4 λ_=>rfl)⟩
 refine bj ⟨p,(B.box 0 i4).aS _ i4,(dW p N).mono ?_⟩;rintro _ Z ⟨rfl,S⟩;have D:=B.up S.ag;refine⟨_,i4,bh (λe=>g D (by unfold nQ;rw[g0 (by rintro⟨h,_⟩;rw[e]at h;cases h)])) λU=>ai (λe=>g D (by unfold nQ;rw[g0 (by rintro⟨_,h,_⟩;omega)])) λe2=>?_⟩;have z:bB p=eR:=by simpa using U
 refine⟨p,(D.box 0 i4).aS _ i4,(xD p n Z).mono ?_⟩;rintro _ h3 ⟨rfl,W⟩;have P:=D.up W.ag;refine⟨_,i4,bQ (λe=>g P (by unfold nQ;rw[g0 (by rintro⟨_,_,h,_⟩;rw[s]at e;exact e h)])) λK=>?_⟩;have F:(i0 c:Int)=countP p n:=by rw[s]at K;exact K
 obtain⟨s1,s2,s3⟩:=lQ z;refine aw (λt:Sl×Nat=>(t.1,(t.2:Int))) (λt h'=>t.2<=i0 c/\(∀x∈c.take t.2,i0 x=dR p)/\Sp h h' [ao H 24 [xi xo p.1,xi xo p.2.1,xi xo p.2.2],al 5 t.1 1 aD (c.take t.2).flatten]) (λt=>i0 c-t.2) (⟨eH,0,0⟩,0) i4 ⟨jj,jj,P.nil 5 1 aD⟩ ?_;rintro⟨o,i⟩ h4 ⟨R,a,u⟩;dsimp only at R a u⊢;refine ai (λe=>?_) λe=>?_
 ·have f:i<i0 c:=by have e':(i:Int)<(l.len:Int):=e;omega
  refine(M.up u.ag).get i i4 f λr L=>⟨p,(u.box 0 i4).aS _ i4,(Ik p h4 z).mono ?_⟩
  rintro _ h5 ⟨rfl,O⟩;have A:=u.up O.ag;have y:=L.len;refine⟨_,i4,bQ (λE=>?_) λE=>?_⟩
  ·refine g (A.cE [0]) ?_;unfold nQ;rw[g0];rintro⟨_,_,_,h⟩;have:=ii (qL.1 h _ (qh f));exact E (by rw[y,this])
  ·have J:c[i].length=dR p:=by rw[y]at E;exact Int.ofNat_inj.1 E
   have w:=PA a;rw[List.length_take_of_le R]at w;have hb:i*dR p<=2^10*2^10:=z7 i5 i5;refine A.append ac 1 i4 gz ⟨_,_,i4,i4⟩ i4 i6 (λ_=>rfl) (Seq.up L O.ag) gV i5 λT h6 V=>?_;refine⟨(T,i+1),js,⟨i7,?_,?_⟩,i7⟩
   ·dsimp only;intro x m;rw[aG _ _ f]at m;rcases qD.1 m with m|m
    ·exact a x m
    ·rw[qx.1 m];exact J
   ·dsimp only;rw[aG _ _ f,List.flatten_append];simpa using V
 ·rw[qi (by have e':¬(i:Int)<(l.len:Int):=e;omega)]at a u;have w:=PA a;have j:=u.own 1 i4;have I:=j.len;obtain⟨k,X⟩:∃k:Nat,n=k:=⟨n.toNat,i5⟩
  subst X;have d:=KA z k;have G:(countP p (k:Int)).toNat=i0 c:=i5
  rw[G,<-w,<-I]at d;have ej:nQ p c (k:Int)=c.flatten.take k:=by unfold nQ;rw[f9 ⟨z,i5,F,qL.2 λx m=>g9 (a x m)⟩,qm]
  refine Yy ac gz k i4 i4 (za d j.cap) ?_;refine⟨⟨o.ptr,k,k⟩,eR,i4,?_⟩;rw[ej];have A:=(u.cE [1]).Bz 0 i4 λ_=>rfl;refine A.gg 0 i4 λq hq=>?_;have Q:=Seq.take hq k i5;exact⟨Q.1,Q.2⟩
section
variable {B:aB} {h0 h:Heap} {As:List HP} {a pw:Addr} {offs:Int} {da:List aO} {w:Pow} {ds:aF} {m:aE}
theorem WU(x:ci)(y:bN m=eR)(H:aa B h0 h (bu bJ a pw (bn x) offs da w ds::dF x m::As)):
  ab xt 92 #[xk (dB a)] h λv h'=>v=xm (nC m ds)/\Sp h h' []:=by
 refine Dk (dB a) ?_;unfold sa;have F:=jY y;have p:=kG y;refine(Sp.refl h).boxed λl K f=>?_;have f:Sp h K [ao l 27 [xk (dB a)]]:=f;have t:=H.up f.ag;refine⟨dB a,(f.box 0 i4).cell0 i4,(dJ x m (t.at 1 i4) F t).mono ?_⟩;rintro _ M ⟨I,rfl,o⟩;have e:=f.comp o;have N:i0 (aR ds m.drives)<=64:=za (qR _ _) p;refine⟨I,i4,(Qu 154 #[] #[xk (dB l)] (DV m ds) I (aR ds m.drives) M k8 (o.seq 0 i4 λ_=>rfl) i5 ?_).mono ?_⟩
 ·intro k L h3 g;have i:=t.up (o.up g.ag).ag;have j:cv h3 l 27 [xk (dB a)]:=(e.up g.ag).box 0 i4;obtain⟨ok,G⟩:=aa.cN i;obtain⟨u,d,q,_⟩:=gH L;have D:=mO y k u;refine Bi k l ?_;unfold pz;obtain⟨n,rfl⟩:∃n:Nat,k=n:=⟨k.toNat,i5⟩
  have E:n<i0 da:=qa
  have J:cellOf h3 ((a.add 10).add ((n:Int).toNat*1))=dB (.pointer da[n]):=by rw[qm,wF];refine G.AI 10 n ?_;rw[un ok.l8,qd E];rfl
  have r:iL da (n:Int)=da[n]:=by unfold iL;rw[f9 i5,qm,qd E];rfl
  obtain⟨b,s,O,c,_⟩:=IC q i;refine⟨dB a,j.cell0 i4,a,i4,⟨i5,i5⟩,da[n],J,dB a,j.cell0 i4,a,i4,x,G.aS _ i4,?_⟩;rw[<-r,c];refine(UI x m q c (i.at 1 i4) F i).mono ?_;rintro _ P ⟨rfl,A⟩;have z:=(j.ag A.ag j.lt).cell0 i4;refine⟨_,i4,⟨z,z,trivial⟩,?_,A⟩;unfold DV;rw[q]
 ·rintro _ h3 ⟨rfl,g⟩;exact⟨_,i4,i4,.zip (e.up g.ag).ag⟩
theorem ahc{name:ByteArray}{l:List Wl.bM}{i:Int}(h:YJ (jk name) l i):(i<0/\l.find? (jk name)=eH)∨∃(n:Nat) (a:n<i0 l),i=n/\l.find? (jk name)=dB l[n]:=by
 rcases h with⟨rfl,h⟩|⟨n,a,rfl,h1,h2⟩
 ·exact .inl ⟨i6,z8.2 λe b=>wi.1 h e b⟩
 ·refine .inr ⟨n,a,i4,List.find?_eq_some_iff_append.2 ⟨h1,l.take n,l.drop (n+1),?_,λe b=>?_⟩⟩
  ·rw[<-List.drop_eq_getElem_cons a,List.take_append_drop]
  ·have:=wi.1 h2 e b;simpa using this
theorem aeW(x:ci)(name:ByteArray)(T:bN m=eR)(G:∀k d,aX ds k=dB d->d.l.length<=512)(H:aa B h0 h (bu bJ a pw (bn x) offs da w ds::dF x m::As)):
  ab xt 32 #[xk (dB a),xl name] h λv h'=>∃r:Sl,v=.tuple #[r,xi xo (oc m offs w ds name).2]/\Sp h h' [EA (cu 1 aD) r (oc m offs w ds name).1]:=by
 refine Gj (dB a) name ?_;unfold uR;have hz:=jY T;have am:=kG T;have ah:(aR ds m.drives).length<=64:=za (qR _ _) am;have f:∀{h':Heap} (e:Int),Sp h h' []->oc m offs w ds name=([],e)->∃r:Sl,(.tuple #[xj eH 0 0,xi xo e]:Value)=.tuple #[r,xi xo (oc m offs w ds name).2]/\Sp h h' [EA (cu 1 aD) r (oc m offs w ds name).1]:=λe R he=>by
  rw[he];exact⟨⟨eH,0,0⟩,i4,(R.nil 5 1 aD).Bz 0 i4 λ_=>rfl⟩
 refine(Is H).mono ?_;rintro _ M ⟨rfl,rfl⟩;refine⟨_,i4,bD (λe=>f 14 (Sp.refl _) (by unfold oc;rw[f9 e])) λe1=>?_⟩;refine(find_spec x m name (H.at 1 i4) hz H).mono ?_;rintro _ h2 ⟨⟨i,rfl,hi⟩,R2⟩;have H2:=H.up R2.ag;refine⟨i,i4,?_⟩;rcases ahc hi with⟨hneg,hf⟩|⟨n,hn,rfl,hf⟩
 ·exact ai (λ_=>f 5 R2 (by unfold oc;rw[g0 n4,hf])) λe=>absurd hneg e
 refine ai (λe=>absurd e (Int.not_lt.2 (zX n))) λ_=>?_;obtain⟨E,hE⟩:∃E,E=m.aH[n]:=⟨_,rfl⟩
 have a1:E∈m.aH:=by rw[hE];exact qh hn
 have ep:oc m offs w ds name=CP m ds E:=by unfold oc;rw[g0 n4,hf,hE]
 rw[ep]at f⊢;refine(WU x T H2).mono ?_;rintro _ h3 ⟨rfl,R3⟩;have H3:=H2.up R3.ag;have J:Sp M h3 []:=R2.up R3.ag;refine⟨_,i4,bh (λe=>f 11 J (by unfold CP;rw[f9 e])) λe3=>?_⟩;have e3:nC m ds=eR:=by simpa using e3
 have Y:=(iR m E).1 (((cF m).1 T).2.2.2.2.1 E a1);have a6:E.tries.length<=8:=by have:=rI Y.2.2.1.2;omega
 have ad:=((fg m).1 ((cF m).1 T).1).2.2.1;have a3:=(aa.cN H3).2;have ax:dG M x m:=H.at 1 i4;obtain⟨ys,F⟩:=bL.fix ax.aH;have a9:=F.2.1;have s:=Fix.row F hn;obtain⟨xe,W⟩:∃xe,xe=ys[n]'(by omega):=⟨_,rfl⟩
 rw[<-hE,<-W]at s;refine⟨a,i4,x.2.2.2.2.2.2.2,a3.cell i4,(Seq.up F.1 J.ag).eJ (g:=bP) n i4 i5 xe (by rw[W]) ?_⟩;refine(Sp.refl h3).alloc ac i4 λa8 h4 Q4=>?_;refine Q4.storeAll ac 0 i4 i4 (bP xe) i4 i4 i4 i4 λh5 Z=>?_;have Z:Sp h3 h5 [ao a8 94 (bP xe)]:=Z;have R5:Sp M h5 [ao a8 94 (bP xe)]:=J.comp Z;have U:Rd M xe.2.2.2 1 aq E.tries:=s.2;have a5:=U.len;have eo:xe.2.1=E.object:=s.1.2.1;have el:xe.2.2.1=E.length:=s.1.2.2;have R5:=R5.Aa 34 5 1 aD;refine⟨xe.2.2.2,(Z.box 0 i4).cell i4,?_⟩;refine aw (λt:Sl×Nat=>(t.1,(t.2:Int))) (λt h'=>t.2<=E.tries.length/\(∀j,j<t.2->(iw m ds E.object E.tries j).2=0)/\Sp M h' [fa t.1 ((qw t.2).map λj=>(iw m ds E.object E.tries j).1),ao a8 94 (bP xe)]) (λt=>E.tries.length-t.2) (⟨eH,0,0⟩,0) i4 ⟨jj,λj u=>absurd u (Nat.not_lt_zero _),R5⟩ ?_;rintro⟨o,k⟩ h6 ⟨hk,I,y⟩;dsimp only at hk I y⊢;have H6:=H.up y.ag;have P:=(aa.cN H6).2;have Q:dG h6 x m:=H6.at 1 i4;have cp:∀{h':Heap},cv h' a 84 (dh (bn x) pw offs da)->an h' (a.add 2) 0 [xi xo m.p.1,xi xo m.p.2.1,xi xo m.p.2.2]:=λ{h'} hb=>by
  rw[<-Q.p];exact⟨j8,j8,j8,trivial⟩
 refine ai (λe=>?_) λe=>?_
 ·have A:k<E.tries.length:=by have e':(k:Int)<(xe.2.2.2.len:Int):=e;omega
  refine(Seq.up U y.ag).bC k i4 A E.tries[k] i4 ?_;refine bj ⟨a,i4,x,P.aS _ i4,xe.2.1,(y.box 1 i4).cell i4,(dJ x m Q hz H6).mono ?_⟩;rintro _ h7 ⟨lv,rfl,R7⟩;have H7:=H6.up R7.ag;have q:=(aa.cN H7).2;have S:=y.up R7.ag;refine⟨lv,i4,⟨(S.box 1 i4).cell i4,q.cell0 i4,q.cell i4,q.cell i4,q.cell i4,q.cell i4,q.cell i4,q.cell i4,q.cell i4,trivial⟩,?_⟩;rw[eo];refine(AT x m lv (aR ds m.drives) E.object k (H7.at 1 rfl) hz (R7.seq 0 rfl λ_=>rfl) i5 (λj u=>by obtain⟨_,d,hd,_⟩:=gH u;exact⟨d,hd⟩) H7).mono ?_;rintro _ h8 ⟨r,ss,rfl,R8⟩;have H8:=H7.up R8.ag;have V:=(aa.cN H8).2;have K:=S.up R8.ag;refine⟨r,i4,trivial,bj ⟨a,i4,m.p,cp V,xe.2.1,(K.box 1 i4).cell i4,(rC xe.2.1 k E.tries[k] h8).mono ?_⟩⟩;rintro _ h9 ⟨rfl,rfl⟩;obtain⟨c1,c2,c3,_⟩:=cp V;have D:Fix jw 2 piv h9 (λb=>b<h9.size) r ss (dN m ds (aR ds m.drives) E.object k):=R8.at 0 i4;have ap:dT Jx h9 r (dN m ds (aR ds m.drives) E.object k):=⟨ss,D.1,D.2.1,D.2.2⟩
  have a7:(dN m ds (aR ds m.drives) E.object k).length<=64*512:=by unfold dN;refine za (DP (c:=512) λj u=>?_) (zt _ ah);obtain⟨_,d,hd,_⟩:=gH u;unfold fW;rw[hd];have M:=EV m E.object k d.l;have h2:=G j d hd;show(AS m E.object k d.l).length<=512;omega
  rw[eo];refine⟨_,i4,⟨c1,c2,c3,trivial⟩,(NP m.p (ce E.object k E.tries[k]) r _ h9 ap).mono ?_⟩;rintro _ bk ⟨ar,rfl,L⟩;have eb:lU m.p (ce E.object k E.tries[k]) (dN m ds (aR ds m.drives) E.object k)=iw m ds E.object E.tries k:=by unfold iw;rw[ge 0 A]
  rw[eb]at L⊢;have X:=K.up L.ag;refine⟨(ar,(iw m ds E.object E.tries k).2),i4,trivial,bQ (λe4=>f 11 (.zip X.ag) ?_) λe4=>?_⟩
  ·unfold CP;rw[g0 (by rw[e3];decide),g0];intro N;exact e4 (ii (qL.1 N k (qE.2 A)))
  ·have a4:=(K.comp L).aZ 3 [0,2,1];refine aa.Eg ac a4 fx i9 λo' bb a2=>?_;refine⟨(o',k+1),js,⟨i7,λj u=>?_,?_⟩,i7⟩
   ·rcases Nat.lt_succ_iff_lt_or_eq.1 u with u|rfl
    ·exact I j u
    ·simpa using e4
   ·dsimp only;rw[List.range_succ,List.map_append];exact a2
 ·have ay:k=E.tries.length:=by have e':¬(k:Int)<(xe.2.2.2.len:Int):=e;omega
  subst ay;refine⟨a,i4,m.p,cp P,xe.2.2.1,(y.box 1 i4).cell i4,?_⟩;rw[el];have z:E.length<=2^20:=by obtain⟨⟨k1,k2⟩,_,z1,z2⟩:=(bZ m.p).1 ad;have:m.p.1*m.p.2.2<=16*24:=yn k2 z2 i5 i5;have:=Y.2.2.1.2;omega
  refine(ZN m.p o _ E.length h6 (y.Fs λ_=>rfl) z i9).mono ?_;rintro _ bd ⟨O,b,rfl,a0⟩;have eg:CP m ds E=(nQ m.p ((qw E.tries.length).map λk=>(iw m ds E.object E.tries k).1) E.length,0):=by unfold CP;rw[g0 (by rw[e3];decide),f9 (qL.2 λj u=>g9 (I j (qE.1 u)))]
  rw[eg];exact⟨(O,b),i4,trivial,O,i4,((y.comp a0).cE [2])⟩
end
theorem WV(s:ByteArray)(h:Heap)(hs:s.size<=2^31):ab xt 120 #[xl s] h λv h'=>v=xl s/\Sp h h' []:=by
 refine rj s ?_;unfold lM;refine de (λe=>?_) λe=>?_
 ·have u:s.size=0:=i5
  have:s=⟨#[]⟩:=by
   cases s with
   |mk d=>
    have:d=#[]:=Array.eq_empty_of_size_eq_zero u;rw[this]
  rw[this];exact⟨i4,Sp.refl h⟩
 ·refine(Sp.refl h).LZ ac aD gz i6 0 i4 i4 s.size s.size i4 i4 (qk _) i5 λE h1 R J X=>?_;obtain⟨K,y⟩:=Sp.fresh X 0 rfl;have L:=K.len;rw[wP]at L;rcases K.head with⟨p1,p2,p3⟩|⟨b,rest,p1,p2,p3,p4⟩
  ·exfalso;have:=congrArg List.length p3;rw[wP,List.length_nil]at this;omega
  have V:=y b ⟨0,p1⟩;have a:i0 s.data.toList=s.size:=by rw[Array.length_toList];rfl
  obtain⟨M,G⟩:∃M:Array Value,M=((qg s.size (0:UInt8)).flatMap aD++rest).toArray:=⟨_,rfl⟩
  rw[<-G]at p2;have ad:s.size<=M.size:=by rw[G];simp[eu (f:=aD) (k:=1) λ_=>rfl]
  obtain⟨Y,H⟩:∃Y:Array Value,Y=(M.toList.take 0++Lib.byteCells s.data.toList++M.toList.drop (0+s.size)).toArray:=⟨_,rfl⟩
  rw[p1];intro w D;have F:w.heap[b]?=dB (.cells M 5 (0,0)):=by rw[D];exact p2
  have o:=Lib.run_copy_row_string (P:=xt) w 34 9 3 5 b 0 E.len E.cap s M 5 k8 k8 F i5 i5;rw[<-H]at o;have r:(w.setRow b Y).heap[b]?=dB (.cells Y 5 (0,0)):=setRow_heap _ _ M _ 5 (0,0) F;refine⟨_,_,o,⟨i4,i4,i4,qk _⟩,(s.size:Int),i4,⟨b,0,eH⟩,⟨p1,i6,i5⟩,?_⟩;intro q g;have p:Y.toList=Lib.byteCells s.data.toList++M.toList.drop s.size:=by rw[H];simp
  have t:i0 (Lib.byteCells s.data.toList)=s.size:=by rw[Lib.byteCells_length,a]
  have N:s.size<=Y.size:=by rw[<-Array.length_toList,p,qy,t];omega
  have l:q.heap[b]?=dB (.cells Y 5 (0,0)):=by rw[g];exact r
  have z:s.data.toList≠[]:=λu=>by rw[u]at a;simp at a;omega
  have B:=Lib.run_unsafeString_row (P:=xt) q 252 3 9 5 k8 k8 b Y.size (by unfold World.shape?;rw[l]) s.data.toList z i5 i5 (λj x I=>by
   have hj:j<s.size:=by have:=(List.getElem?_eq_some_iff.1 I).1;omega
   have O:Y[j]?=dB (xi xp (x.toNat:Int)):=by rw[<-Array.getElem?_toList,p,List.getElem?_append_left i5];unfold Lib.byteCells;rw[List.getElem?_map,I];rfl
   have U:((⟨b,0,eH⟩:Addr).add j)=⟨b,j,eH⟩:=by unfold Addr.add;split<;>simp_all
   rw[U];unfold World.cell?;simp only[l,O];rfl)
  have Q:((E.len:Nat):Int)=(i0 s.data.toList:Int):=i5
  have S:∀(c:World) (n:Nat),(c.freeze ⟨b,0,eH⟩ n).heap.size=c.heap.size/\(∀k,k≠b->(c.freeze ⟨b,0,eH⟩ n).heap[k]?=c.heap[k]?)/\dm c (c.freeze ⟨b,0,eH⟩ n):=λc n=>by
   unfold World.freeze;split
   ·exact⟨i4,λ_ _=>rfl,dm.refl _⟩
   ·refine⟨jj,λk m=>?_,⟨i4,i4,i4,qk _⟩⟩;rw[wz,g0 λh=>m h.symm]
  obtain⟨Z,T,f3⟩:=S q s.data.toList.length;refine⟨xl ⟨s.data.toList.toArray⟩,q.freeze ⟨b,0,eH⟩ s.data.toList.length,?_,f3,⟨s.data.toList.toArray⟩,i4,jj,?_⟩
  ·rw[Q];exact B
  ·have W:(w.setRow b Y).heap.size=w.heap.size:=by unfold World.setRow;simp
   have s2:∀k,k≠b->(w.setRow b Y).heap[k]?=w.heap[k]?:=λk m=>by
    unfold World.setRow;rw[wz,g0 λh=>m h.symm]
   refine .zip ⟨by rw[Z,g,W,D];exact J.1,λk m A=>?_⟩;have i:k≠b:=by have:=V.1;omega
   rw[T k i,g,s2 k i,D];exact J.2 k m A
theorem RQ(s:ByteArray)(h:Heap)(b:s.size<=2^31):ab xt 56 #[xl s] h λv h'=>v=xl s/\Sp h h' []:=by refine JD s ?_;unfold BP;refine(WV s h b).mono ?_;rintro _ c ⟨rfl,a⟩;exact⟨_,i4,i4,a⟩
def uv(m:aE)(offs:Int)(w:Pow):List ByteArray:=if dY w offs then[]else m.aH.map Wl.bM.name
section
variable {B:aB} {h0 h:Heap} {As:List HP} {a pw:Addr} {offs:Int} {da:List aO} {w:Pow} {ds:aF} {m:aE}
theorem ZO(x:ci)(s:bN m=eR)(H:aa B h0 h (bu bJ a pw (bn x) offs da w ds::dF x m::As)):
  ab xt 13 #[xk (dB a)] h λv h'=>∃r:Sl,v=r/\Sp h h' [al 9 r 1 IR (uv m offs w)]:=by
 refine EB (dB a) ?_;unfold tV;refine(Is H).mono ?_;rintro _ f ⟨rfl,rfl⟩;refine⟨_,i4,bD (λe=>?_) λy=>?_⟩
 ·have:uv m offs w=[]:=by unfold uv;rw[f9 e]
  rw[this];exact⟨⟨eH,0,0⟩,i4,(Sp.refl f).nil 9 1 IR⟩
 have z:uv m offs w=m.aH.map Wl.bM.name:=by unfold uv;rw[g0 (by rw[y];decide)]
 rw[z];have K:=(aa.cN H).2;have I:dG f x m:=H.at 1 i4;have N:=((cF m).1 s).2.2.2.1;obtain⟨A,F⟩:=bL.fix I.aH;have G:=F.2.1;have O:=F.1.len;refine⟨a,i4,x.2.2.2.2.2.2.2,K.cell i4,?_⟩;refine aw (λt:Sl×Nat=>(t.1,(t.2:Int))) (λt h'=>t.2<=i0 m.aH/\Sp f h' [al 9 t.1 1 IR ((m.aH.map Wl.bM.name).take t.2)]) (λt=>i0 m.aH-t.2) (⟨eH,0,0⟩,0) i4 ⟨jj,by simpa using(Sp.refl f).nil 9 1 IR⟩ ?_;rintro⟨o,i⟩ T ⟨Q,j⟩;dsimp only at Q j⊢;refine ai (λe=>?_) λe=>?_
 ·have c:i<i0 m.aH:=i5
  have b:=Fix.row F c;obtain⟨E,p⟩:∃E,E=m.aH[i]:=⟨_,rfl⟩
  have n:E∈m.aH:=by rw[p];exact qh c
  obtain⟨xe,d⟩:∃xe,xe=A[i]'(by omega):=⟨_,rfl⟩
  rw[<-p,<-d]at b;have k:xe.1=E.name:=b.1.1;have P:E.name.size<=12:=by have:=((iR m E).1 (((cF m).1 s).2.2.2.2.1 E n)).1;unfold ms at this;simp at this;omega
  refine(Seq.up F.1 j.ag).eJ (g:=bP) i i4 i5 xe (by rw[d]) ?_;refine j.alloc ac i4 λM h3 J=>?_;refine J.storeAll ac 1 i4 i4 (bP xe) i4 i4 i4 i4 λq l=>?_;have l:Sp f q [al 9 o 1 IR ((m.aH.map Wl.bM.name).take i),ao M 94 (bP xe)]:=l;refine⟨xe.1,(l.box 1 i4).cell0 i4,(RQ xe.1 q (by rw[k];omega)).mono ?_⟩;rintro _ U ⟨rfl,R⟩;have L:=(l.up R.ag).cE [0];refine⟨_,i4,L.push ac 0 i4 ajn i4 i6 (λ_=>rfl) agV xe.1 i4 i6 i9 λu S D=>?_⟩;refine⟨(u,i+1),js,⟨i7,?_⟩,i7⟩;dsimp only;rw[aG _ _ (show i<i0 (m.aH.map Wl.bM.name) by simpa using c),wx,<-p,<-k];exact D
 ·rw[qi o6]at j;exact⟨o,i4,j⟩
theorem aeX(b:bN m=eR)(H:aa B h0 h (bI a pw da offs w ds m::As)):
  ab xt 13 #[xk (dB a)] h λv h'=>∃r:Sl,v=r/\Sp h h' [al 9 r 1 IR (uv m offs w)]:=by
 obtain⟨x,H⟩:=gN H;exact ZO x b H
end
section
variable {B:aB} {h0 h:Heap} {As:List HP} {a pw:Addr} {offs:Int} {da:List aO} {w:Pow} {ds:aF}
end
section
theorem XH{B:aB}{g h:Heap}{As:List HP}{a pw:Addr}{offs:Int}{f:List aO}{w:Pow}{ds:aF}{m:aE}(name:ByteArray)(i:bN m=eR)(H:aa B g h (bI a pw f offs w ds m::As)):
  ab xt 32 #[xk (dB a),xl name] h λv h'=>∃r:Sl,v=.tuple #[r,xi xo (oc m offs w ds name).2]/\Sp h h' [EA (cu 1 aD) r (oc m offs w ds name).1]:=by
 have b:=(oD H).2;obtain⟨x,e⟩:=gN H;exact aeW x name i (λk d c=>za (b k d c).1 (b k d c).2.1) e
theorem acS{m:aE}:uv m 0 Pow.new=m.aH.map Wl.bM.name:=by unfold uv;rw[g0 i6]
end
section
variable {B:aB} {h0 h:Heap} {As:List HP} {a pw:Addr} {offs:Int} {da:List aO} {w:Pow} {ds:aF} {m:aE}
theorem aeY{n:Nat}(i:n<64)(cells:Int)(l:bN m=eR)(j:dY w offs=eS)(f:gy n cells=eR)(d:(n:Int)∈m.drives)(g:(n:Int)∉aR ds m.drives)(e:(i0 (bm m):Int)<=cells)(H:aa B h0 h (bI a pw da offs w ds m::As)):
  ab xt 31 #[xk (dB a),xi xo n,xi xo cells] h λv h'=>v=xi xo (layAll (bt m [(n:Int)]) w (ds.set n (dB (bo.new cells.toNat)))).1/\
   ∃c,aa B h0 h' (bI a pw c offs (layAll (bt m [(n:Int)]) w (ds.set n (dB (bo.new cells.toNat)))).2.1 (layAll (bt m [(n:Int)]) w (ds.set n (dB (bo.new cells.toNat)))).2.2 m::As):=by
 obtain⟨x,H⟩:=gN H;refine(Wj n i cells x m (jY l) H j f d g e).mono ?_;rintro _ h' ⟨rfl,b,k⟩;exact⟨i4,_,mA k⟩
end
theorem Ra{p:Pm}{b:ba}(c:bB p=eR)(a:(i0 b:Int)<=2*p.1*p.2.2):i0 (splitB p b)<=2:=by
 have e:=(bZ p).1 c;unfold splitB;rw[qA,zx];unfold countP;split
 ·have d:0<p.1*p.2.2:=Int.mul_pos i5 i5;have f:((i0 b:Int)-1)/(p.1*p.2.2)<2:=Int.ediv_lt_of_lt_mul d (by rw[xc]at a;omega);omega
 ·decide
theorem Oi(c0:Sl)(l:az)(n x u most:Int)(h:Heap)(hs:Rd h c0 1 aq l):
  ab xt 5 #[c0,xi xo n,xi xo x,xi xo u,xi xo most] h λv h'=>v=xm eR/\Sp h h' []:=by
 refine re c0 n x u most ?_;unfold lL;refine(WQ c0 l h hs).mono ?_;rintro _ h1 ⟨r,rfl,R1⟩;refine⟨(jy l,aiC l,r),i4,R1.alloc ac i4 λW h2 H2=>?_⟩;refine H2.storeAll ac 1 i4 i4 [xi xo (jy l).1,xi xo (jy l).2.1,xi xo (jy l).2.2] i4 i4 i4 i4 λh3 H3=>?_;obtain⟨p,a0⟩:∃p,p=jy l:=⟨_,rfl⟩
 have hp:bB p=eR:=by rw[a0];exact abJ _ _ _
 have cn:p.1<=6/\p.2.2<=9:=by rw[a0];unfold jy DQ;dsimp only;omega
 have d2:=(bZ p).1 hp;rw[<-a0]at H3;have H3:Sp h h3 [al 3 r 1 aq (Fj l),ao W 24 [xi xo p.1,xi xo p.2.1,xi xo p.2.2]]:=H3;have H3:=H3.cE [1];obtain⟨G,hG⟩:∃G:az,G=[200,200,200]:=⟨_,rfl⟩
 have c9:G.length=3:=qs
 obtain⟨V,du⟩:=agW (extra:=8) (l:=G) hp i6 i5 (by rw[hG];decide);have fin:∀{h3 A:Heap} {pw:Addr} {q:Sl},Sp h A [dE 92 pw Pow.new,ao W 24 [xi xo p.1,xi xo p.2.1,xi xo p.2.2],al 3 q 1 aq G]->
   ab xt 8 #[lu p,xi xo 8,xk (dB pw),q] A λv h'=>∃(a pw:Addr) (da:List aO) (D:aF),v=.tuple #[xk (dB a),xi xo 0]/\D.length=64/\(∀s,aX D s=if s∈bp G G.length then dB ⟨(G.getD s.toNat 0).toNat,bm (ck p 8 G),0,[],eS,eS⟩else eH)/\
    Sp h h' [bI a pw da 0 Pow.new D (ck p 8 G),ao W 24 [xi xo p.1,xi xo p.2.1,xi xo p.2.2]]:=λ{h3 A pw q} P=>by
  refine(NG p 8 q G (As:=[ao W 24 [xi xo p.1,xi xo p.2.1,xi xo p.2.2],al 3 q 1 aq G]) (St.fj 1 i4 λh' hq=>hq.1.seq (λ_=>rfl) hq.2) i5 V i4 P).mono ?_;rintro _ h7 ⟨a,da,D,rfl,f2,f3,H7⟩;exact⟨a,pw,da,D,i4,f2,f3,H7.cE [0,1]⟩
 refine bY (λ(t:aO×Int) h'=>∃(a pw:Addr) (da:List aO) (D:aF),t=(dB a,0)/\D.length=64/\(∀s,aX D s=if s∈bp G G.length then dB ⟨(G.getD s.toNat 0).toNat,bm (ck p 8 G),0,[],eS,eS⟩else eH)/\
  Sp h h' [bI a pw da 0 Pow.new D (ck p 8 G),ao W 24 [xi xo p.1,xi xo p.2.1,xi xo p.2.2]]) ?_ ?_
 ·refine⟨p,(H3.box 0 i4).aS _ i4,?_,?_⟩
  ·refine(Ia h3).mono ?_;rintro _ A ⟨pw,rfl,R4⟩;have P:=H3.ca R4;refine⟨_,i4,⟨(P.box 1 i4).cell0 i4,(P.box 1 i4).cell i4,(P.box 1 i4).cell i4,trivial⟩,?_⟩;refine P.lit ac aq gm i4 G qs i6 qs λq h5 Z=>?_;refine⟨⟨(Z.box 1 i4).cell0 i4,(Z.box 1 i4).cell i4,(Z.box 1 i4).cell i4,trivial⟩,?_⟩;refine(fin (h3:=h3) Z).mono ?_;rintro _ h7 ⟨a,pw,da,D,rfl,f2,f3,H7⟩;exact⟨(dB a,0),i4,trivial,a,pw,da,D,i4,f2,f3,H7⟩
  ·refine H3.lit ac aq gm i4 G qs i6 qs λq h5 Z=>?_;refine⟨⟨(Z.box 0 i4).cell0 i4,(Z.box 0 i4).cell i4,(Z.box 0 i4).cell i4,trivial⟩,?_⟩;refine(Ia h5).mono ?_;rintro _ A ⟨pw,rfl,R4⟩;have P:=Z.ca R4;refine⟨_,i4,⟨(P.box 1 i4).cell0 i4,(P.box 1 i4).cell i4,(P.box 1 i4).cell i4,trivial⟩,?_⟩;refine(fin (h3:=h3) P).mono ?_;rintro _ h7 ⟨a,pw,da,D,rfl,f2,f3,H7⟩;exact⟨(dB a,0),i4,trivial,a,pw,da,D,i4,f2,f3,H7⟩
 rintro⟨_,_⟩ h8 ⟨a,pw,da,D,he,f2,f3,H8⟩;injection he with he1 he2
 subst he1 he2;obtain⟨S0,F0,_⟩:=acB (m:=ck p 8 G) rfl V i5 f2 f3 λ_=>[];have b5:(ck p 8 G).drives=[0,1,2]:=by show bp G G.length=_;rw[du,c9];rfl
 have hD:∀k d,aX D k=dB d->d.wait=0/\d.room=200/\d.l.length<=9:=λk d f=>by
  rw[f3]at f;split at f
  ·rename_i S;injection f with f
   subst f;have S:k∈(ck p 8 G).drives:=S;rw[b5]at S;refine⟨i4,?_,IB S0.may⟩;simp only[qX,List.not_mem_nil,or_false]at S;rw[hG];rcases S with rfl|rfl|rfl<;>rfl
  ·cases f
 refine bj (bQ (λe=>absurd i4 e) λ_=>bD (λe=>j3) λ_=>?_);refine⟨p.1,(H8.box 1 i4).cell0 i4,p.2.2,(H8.box 1 i4).cell i4,?_⟩;have d6:1<=p.1*p.2.2:=Int.le_trans i6 (yn (show(1:Int)<=p.1 by omega) (show(1:Int)<=p.2.2 by omega) i6 i5);have d3:p.1*p.2.2<=54:=Int.le_trans (yn cn.1 cn.2 i5 i6) i6;dsimp only;rw[ak (2*p.1),ak (2*p.1*p.2.2) (by rw[xc];omega) (by rw[xc];omega)];obtain⟨N,hN⟩:∃N,N=2*p.1*p.2.2:=⟨_,rfl⟩
 have d7:2<=N/\N<=108:=by rw[hN,xc];omega
 rw[<-hN];refine(fA n N h8 i5 i5).mono ?_;rintro _ _ ⟨rfl,rfl⟩;have q0:=Int.emod_nonneg n (show N≠0 by omega);have q1:=Int.emod_lt_of_pos n (show 0<N by omega);obtain⟨T,hT⟩:∃T:Nat,1+n%N=(T:Int):=⟨(1+n%N).toNat,i5⟩
 refine⟨_,i4,?_⟩;dsimp only;rw[ak (1+n%N),hT];refine(YZ T x _ i5).mono ?_;rintro _ h9 ⟨v,b,rfl,ed,R9⟩;have H9:=H8.comp R9;have cl:(b.length:Int)<=2*p.1*p.2.2:=by rw[<-hN];omega
 refine⟨v,i4,?_⟩;have H9:Sp h h9 [bI a pw da 0 Pow.new D (ck p 8 G),ao W 24 [xi xo p.1,xi xo p.2.1,xi xo p.2.2],al 5 v 1 aD b]:=H9;have dr:v.len<=v.cap:=(H9.own 2 i4).cap;refine(agH lc v b (As:=[ao W 24 [xi xo p.1,xi xo p.2.1,xi xo p.2.2],al 5 v 1 aD b]) (St.fj 1 i4 λh' hq=>hq.1.seq (λ_=>rfl) hq.2) dr i6 S0.may i5 H9).mono ?_;rintro _ d0 ⟨rfl,y⟩;have H:∀{h':Heap} {As:List HP},Sp h h' As->ae xt 14 #[] bK h' λr6 h6=>(λv c7=>v=Value.bool eR/\Sp h c7 []) (Value.bool r6) h6:=λ{h' As} H'=>by
  refine(Vj h').mono ?_;rintro _ h6 ⟨rfl,R6⟩;exact⟨eR,i4,i4,.zip (H'.up R6.ag).ag⟩
 rcases ahb (R:=200) (c:=2) S0 F0 rfl hD lc b (Ra hp cl)with⟨e,he,eq⟩|⟨t,m,ds,eq,O⟩
 ·rw[eq]at y⊢;refine⟨e,i4,bQ (λ_=>?_) λh=>absurd h he⟩;refine(aeX S0.may y).mono ?_;rintro _ b6 ⟨br,rfl,cs⟩;have dx:br.len=0:=by rw[(cs.own 0 i4).len,acS];rfl
  exact⟨br,i4,de (λ_=>H (y.up cs.ag)) λe=>absurd (by rw[dx];rfl) e⟩
 rw[eq]at y⊢;refine⟨0,i4,bQ (λh=>absurd i4 h) λ_=>?_⟩;have y:Sp h d0 [bI a pw da 0 Pow.new ds m,ao W 24 [xi xo p.1,xi xo p.2.1,xi xo p.2.2],al 5 v 1 aD b]:=y;obtain⟨live,o⟩:∃live,live=m.drives:=⟨_,rfl⟩
 have bd:live=aR ds m.drives:=by rw[O.full.aR];exact o
 have F:live=[0,1,2]:=o.trans (O.drives.trans b5);have I:=O.sto.may;have dk:=O.sto.rO;have dn:live.Nodup:=by rw[F];decide
 have cr:∀k∈live,0<=k/\k<64:=by rw[F];decide
 have bq:live.length=3:=by rw[F];rfl
 have b0:¬hJ live.length 1>4096:=by rw[bq];decide+kernel
 have c8:t.length<=2:=by rw[O.tl];exact Ra hp cl
 have d9:=IB I;have B:∀k d,aX ds k=dB d->d.wait=0/\d.room=200/\d.l.length<=55:=λk d f=>by
  obtain⟨b1,b2,b3⟩:=O.row k d f;have b3:d.l.length<=27+2*(p.1+8).toNat:=b3;exact⟨b1,b2,i5⟩
 have am:∀M,(m.aH.map λe=>e.tries.length*M).sum=t.length*M:=λM=>by rw[O.aH];simp
 have cf:∀k d,aX ds k=dB d->d.l.length<=d.room/\d.room<=512:=λk d f=>by have:=B k d f;omega
 have b7:∀k d,aX ds k=dB d->d.wait=0:=λk d f=>(B k d f).1;have Z1:oZ m live ds 1 64:=⟨bd,i5,i5,b0,i6,cr⟩
 have c6:m.drives≠[]:=by rw[<-o,F];decide
 have r1:=Og (G:=live) (M:=64) Z1 O.sto i4 (λs h=>h) cf b7 (λk _ d f=>by
  have:=B k d f;have:=me m d.l;omega) (λe he i hi=>⟨O.can c6 he hi,acN dn (by rw[bq];decide) _⟩) (λs _ d f=>by
  have:=B s d f;have:=me m d.l;rw[am];omega)
 obtain⟨a1,W,a3,a4,a5,a6,_⟩:=Oe Z1 O.sto cf b7;refine(NZ 1 64 I i6 y).mono ?_;obtain⟨R,hR⟩:∃R,R=fM m 0 Pow.new ds 1 64:=⟨_,rfl⟩
 rw[<-hR]at a1 W a3 a4 a5 a6 r1⊢;rintro _ b6 ⟨rfl,X⟩;rw[a1]at X;refine⟨((R.1:Int),R.2.1),i4,bQ (λe=>de (λ_=>H X) λh=>r1.elim (λh0=>absurd h0 e) λdd=>absurd dd h) λe=>?_⟩;obtain⟨Q,K⟩:=a6 e;obtain⟨E,c2⟩:∃E,E=R.2.2.2:=⟨_,rfl⟩
 rw[<-c2]at X Q K a3 a4 a5;refine(fA u 3 b6 i6 i6).mono ?_;rintro _ _ ⟨rfl,rfl⟩;obtain⟨g,hg,d4⟩:∃g:Nat,u%3=(g:Int)/\g<3:=⟨(u%3).toNat,i5,i5⟩
 rw[hg];have hx:(g:Int)∈live:=by
  rw[F];have:g=0∨g=1∨g=2:=i5
  rcases this with rfl|rfl|rfl<;>decide
 have J:live=aR E m.drives:=by rw[a3.live];exact bd
 obtain⟨l1,G3⟩:=(Pz.start (m:=m) Q.sto.len).Cn (show(g:Int)∈aR E m.drives by rw[<-J];exact hx);refine⟨(g:Int),i4,bj ?_⟩;refine(aeR (g:Int) I X).mono ?_;obtain⟨L,hL⟩:∃L,L=nR m 0 Pow.new E (g:Int):=⟨_,rfl⟩
 rw[<-hL]at l1 G3⊢;rintro _ d5 ⟨rfl,c5⟩;refine⟨_,i4,bQ (λh=>absurd l1 h) λ_=>?_⟩;have bk:(g:Int)∉aR L.2 m.drives:=λh=>((G3.live _).1 h).2 jj;obtain⟨b1,b2,b3,b4⟩:=aha (m:=m) (ds:=L.2) (n:=g) (cells:=200) i5 G3.len i5;refine(aeY (n:=g) i5 200 I i6 (g9 ⟨i5,i6⟩) (by rw[<-o];exact hx) bk i5 c5).mono ?_;rw[show(200:Int).toNat=200 from rfl];obtain⟨Y,hY⟩:∃Y,Y=layAll (bt m [(g:Int)]) Pow.new (L.2.set g (dB (bo.new 200))):=⟨_,rfl⟩
 rw[<-hY]at b1 b2 b3 b4⊢;rintro _ eb ⟨rfl,ea,a9⟩;refine⟨_,i4,bQ (λh=>absurd b1 h) λ_=>?_⟩;obtain⟨j,ax⟩:∃j,j=Y.2.2:=⟨_,rfl⟩
 rw[b2,<-ax]at a9;rw[<-ax]at b3 b4;have A:∀k,aX j k=if k=(g:Int)then dB (⟨200,bm m,0,[],eS,eS⟩:bo)else aX E k:=λk=>by
  rw[b4];split
  ·rfl
  ·rename_i S;exact G3.at_ k (by simpa using S)
 have cp:aR j m.drives=live:=Oh J hx i4 A;have P4:∀e∈m.aH,∀i<e.tries.length,IS m live [(g:Int)] j 1 e i:=λe he i hi=>acP I J hx i4 A (K e he i hi);have S4:dZ m (jM (λ_=>[]) (ck p 8 G).next b) j:=⟨I,b3,λk d f c hc=>by
  rw[A]at f;split at f
  ·injection f with f
   subst f;exact Jz _ I hc
  ·exact Q.sto.cells k d f c hc,Q.sto.ents⟩
 obtain⟨V,a8⟩:∃V:Wl.bM,V=⟨lc,(ck p 8 G).next,b.length,t⟩:=⟨_,rfl⟩
 have cc:V∈m.aH:=by rw[O.aH,a8];simp
 have ar:uN m j V=eR:=by unfold uN;rw[qz];refine⟨?_,qL.2 λi hi=>(P4 V cc i (qE.1 hi)).full⟩;unfold nC;rw[cp];refine zV.2 ⟨(g:Int),hx,?_⟩;unfold DV;rw[A,f9 rfl];exact(mg I).2 λc h=>h
 have ah:∀{ds':aF},dZ m (jM (λ_=>[]) (ck p 8 G).next b) ds'->uN m ds' V=eR->oc m 0 Pow.new ds' lc=(b,0):=λ{ds'} S' hc=>by
  rw[(S'.get (offs:=0) (w:=Pow.new) i6 lc).1 V cc (by rw[a8]),f9 hc,a8];exact congrArg (λz=>(z,(0:Int))) O.data
 refine(XH lc I a9).mono ?_;rintro _ dp ⟨cd,rfl,b9⟩;rw[ah S4 ar]at b9⊢;have bb:=a9.comp b9;refine⟨(cd,0),i4,bj (bQ (λe=>absurd i4 e) λ_=>?_)⟩;refine(Nl cd v b b dp (bb.at 3 i4) (bb.seq 2 i4 λ_=>rfl)).mono ?_;rintro _ _ ⟨rfl,rfl⟩;refine⟨_,i4,bh (λe=>by simp at e) λ_=>?_⟩;refine(fA most 65 _ i6 i6).mono ?_;rintro _ _ ⟨rfl,rfl⟩;obtain⟨M,hM,d1⟩:∃M:Nat,most%65=(M:Int)/\M<65:=⟨(most%65).toNat,i5,i5⟩
 rw[hM];have ap:∀k d,aX j k=dB d->d.l.length<=d.room/\d.room<=512:=λk d f=>by
  rw[A]at f;split at f
  ·injection f with f
   subst f;exact⟨show(bm m).length<=200 by omega,show 200<=512 by decide⟩
  ·exact Q.rm k d f
 have ad:∀k d,aX j k=dB d->d.wait=0:=λk d f=>by
  rw[A]at f;split at f
  ·injection f with f
   subst f;rfl
  ·exact(a5 k d f).2
 have d8:=me m (bm m);have ef:t.length*M<=2*64:=z7 c8 i5;have Z4:oZ m live j 1 M:=⟨cp.symm,i5,i5,b0,i5,cr⟩
 have r4:=Og (G:=[(g:Int)]) (M:=M) Z4 S4 i4 (λs h=>by rw[qx.1 h];exact hx) ap ad (λk S d f=>by
  rw[A]at f;split at f
  ·injection f with f
   subst f;show(bm m).length+(cU m (bm m)).length<=200;omega
  ·have h1:=(Q.tidy k S d f).keep;have h2:=(Q.tidy k S d f).room;rw[oY]at h1;omega) P4 (λs hs d f=>by
  rw[A,f9 (qx.1 hs)]at f;injection f with f
  subst f;rw[am];show(bm m).length+(cU m (bm m)).length+t.length*M<=200;omega)
 obtain⟨c1,_,c3,c4,_⟩:=Oe Z4 S4 ap ad;refine⟨(M:Int),i4,(NZ 1 M I i6 bb).mono ?_⟩;obtain⟨U,hU⟩:∃U,U=fM m 0 Pow.new j 1 M:=⟨_,rfl⟩
 rw[<-hU]at c1 c3 c4 r4⊢;rintro _ ec ⟨rfl,ay⟩;rw[c1]at ay;refine⟨((U.1:Int),U.2.1),i4,(XH lc I ay).mono ?_⟩;rintro _ dy ⟨bl,rfl,cq⟩;rw[ah c4 (acQ c3 dk ar)]at cq⊢;have a7:=ay.comp cq;refine⟨(bl,0),i4,de (λ_=>?_) λe=>de (λ_=>?_) λe2=>r4.elim (λh=>absurd h e) λh=>absurd h e2⟩
 all_goals
  refine ai (λ_=>de (λ_=>?_) λe=>absurd i4 e) λe=>absurd (zX _) e;refine(Nl bl v b b dy (a7.at 4 i4) (a7.seq 2 i4 λ_=>rfl)).mono ?_;rintro _ _ ⟨rfl,rfl⟩;exact⟨_,i4,bD (λ_=>H a7) λe=>by simp at e⟩
theorem Gt(s:Sl)(l:az)(n x a most:Int)(h:Heap)(c:Rd h s 1 aq l):
  ab xt 5 #[s,xi xo n,xi xo x,xi xo a,xi xo most] h λv h'=>v=xm eR/\aY (λb=>b<h.size) h h':=
 (Oi s l n x a most h c).mono λ_ _ q=>⟨q.1,q.2.ag⟩
end Go.Qw
