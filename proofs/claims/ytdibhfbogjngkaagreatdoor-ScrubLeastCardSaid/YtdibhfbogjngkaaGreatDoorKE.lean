/- Lemmas for the proof of the law; no condition. -/
import Derived.Test.YtdibhfbogjngkaaGreatDoorKD
import Derived.Lib.BufferWrite
import Derived.Lib.UnsafeStr
set_option linter.unusedVariables false
set_option maxHeartbeats 4000000
set_option linter.unusedSimpArgs false
open Go.Proofs.Tryz renaming prog -> xm
open Prod renaming fst -> qM
open List renaming length -> vd, mem_iff_getElem -> yQ, pairwise_flatten -> vG, pairwise_lt_range -> ya, range -> qx, replicate -> qg
open Go.Value renaming bool -> xg, int -> xb, pointer -> xd, string -> xf
open Go.IntKind renaming i64 -> xi, u32 -> xk, u8 -> xj
set_option maxRecDepth 100000
open Option renaming some -> dB, none -> eH
open Bool renaming true -> eR, false -> eS
open List renaming length -> j9
namespace Go.Qw
open Go Go.Vc Go.Proofs Wl
theorem ee.aes{m:aE}{C:Int->aY}{ds:aF}(S:ee m C ds){k:Int}{b d:bp}(f:aW ds k=dB b)(g:∀c∈d.l,dY m C c):ee m C (bT ds k d):=
 ⟨S.may,by rw[AD];exact S.len,λj e a=>by
  rw[gH S.len f]at a;split at a
  ·injection a with a;subst a;exact g
  ·exact S.cells j e a,S.ents⟩
structure Wn (p:Pm) (m:aE) (C:Int->aY) (ds:aF):Prop where
 sto:ee m C ds
 live:be ds m.drives≠[]
 dr:∀k∈m.drives,k<9
 pe:m.p=p
 wt:∀k d,aW ds k=dB d->d.wait=0
variable {p:Pm} {m:aE} {C:Int->aY} {ds:aF}
theorem agA{a:cC}{d:bp}(h:d.wait=0):(gq a d).wait=0:=by
 unfold gq;split
 ·exact h
 ·rfl
theorem aet{d:bp}{n:Int}(h:d.wait=0):(cE m d n).wait=0:=by
 unfold cE;split
 ·exact h
 ·rfl
end Go.Qw
namespace Wl
end Wl
namespace Go.Qw
open Go Go.Vc Go.Proofs Wl
variable {p:Pm} {m:aE} {C:Int->aY} {ds ds':aF}
theorem abY:∀n:Fin 10,∀t:Fin 4,gw ((n:Nat):Int) ((t:Nat):Int)<=4096:=l4
structure aiX (m:aE) (ds ds':aF) (gone:au):Prop where
 len:j9 ds'=64
 at_:∀k,k∉gone->aW ds' k=aW ds k
 live:∀k,k∈be ds' m.drives↔k∈be ds m.drives/\k∉gone
 sub:∀k∈gone,k∈be ds m.drives
 nd:gone.Nodup
theorem UA{o b k:Int}(h:aW ds' k=aW ds k):dM m ds' o b k=dM m ds o b k:=by unfold dM;rw[h]
theorem jw{o b:Int}{live:au}{i:Nat}(a:i<j9 live):(cv m ds o b live).getD i []=(dM m ds o b live[i]).map qM:=by rw[dT [] (by unfold cv;rw[qw];exact a)];unfold cv;rw[wo];unfold fc;rw[zg,zT,qL]
end Go.Qw
namespace Go.Qw
open Go Go.Vc Go.Proofs Wl
theorem uc(W:bz)(a:au)(x:Int):∀k,x∈mT W a k↔∃i,i<k/\(i:Int)∉a/\x∈W.getD i []
 |0=>by simp[mT]
 |k+1=>by
  rw[mT,qA,uc W a x k];constructor
  ·rintro(⟨i,e,b,h3⟩|h)
   ·exact⟨i,k4,b,h3⟩
   ·by_cases d:(k:Int)∈a
    ·rw[j1 d]at h;cases h
    ·rw[j3 d]at h;exact⟨k,k4,d,h⟩
  ·rintro⟨i,e,b,h3⟩;by_cases c:i=k
   ·subst c;exact .inr (by rw[j3 b];exact h3)
   ·exact .inl ⟨i,k4,b,h3⟩
theorem abZ(p:Pm)(seed:Int){a b:au}(h:∀x∈a,x∈b):nC p seed a<=nC p seed b:=by
 unfold nC;refine Gu (jL p seed a) (jL p seed b) λr c=>?_;unfold dR at c⊢;split at c
 ·rename_i e;rw[j1 e];rcases qA.1 c with c|c
  ·exact zn _ c
  ·obtain⟨i,d,rfl⟩:=qo.1 c;rw[qH]at d;exact zE _ (qo.2 ⟨i,qH.2 ⟨h i d.1,d.2⟩,k0⟩)
 ·cases c
theorem aca{p:Pm}{seed:Int}{W V:bz}{g g':au}(f:j9 W<=j9 V)(e:∀x∈g',x∈g)(b:∀i x,x∈W.getD i []->x∈V.getD i []):mG p seed W g<=mG p seed V g':=by unfold mG;refine abZ p seed λx a=>?_;rw[uc]at a⊢;obtain⟨i,h,d,h3⟩:=a;exact⟨i,k4,λc=>d (e _ c),b i x h3⟩
theorem Im{p:Pm}{seed:Int}{W V:bz}{t:Nat}(b:j9 V=j9 W)(c:∀i x,x∈W.getD i []->x∈V.getD i [])(h:jJ p seed W t=eH):jJ p seed V t=eH:=by
 unfold jJ at h⊢;rw[b];rw[yh]at h⊢;intro g a d;have j:(mG p seed W g:Int)=bD p:=by simpa using h g a
 have f:=aca (p:=p) (seed:=seed) (W:=W) (V:=V) (g:=g) (g':=g) k4 (λ_ h=>h) c;have h3:=acP p seed (mT V g V.length);have e:(mG p seed V g:Int)≠bD p:=j8 d;apply e;unfold mG at*;omega
variable {m:aE} {C:Int->aY} {ds:aF}
theorem aeu(f:bV m=eR){l l':cC}(d:∀c∈l',dY m C c)(h:∀c∈l,c∈l'){r:cX}(e:r∈cS m l):r∈cS m l':=by obtain⟨a,b,c⟩:=gu e;exact lm f d (h _ a) b c
theorem ud(i:bV m=eR){l:cC}(j:∀c∈l,dY m C c){r:cX}:r∈cS m (bM m l)↔r∈cS m l:=by
 constructor
 ·intro f;obtain⟨a,b,c⟩:=gu f;rcases qA.1 a with h|h
  ·rw[iX h]at b;cases b
  ·obtain⟨k,d,e⟩:=qo.1 h;obtain⟨_,g,_⟩:=gu d;rw[e,b]at g;injection g with g
   rw[g];exact d
 ·intro f;obtain⟨a,b,c⟩:=gu f;exact lm i (IZ i j) (zE _ (qo.2 ⟨r,f,k0⟩)) b c
theorem Zc(r:cX):nB r r=eR:=by rw[kU];exact⟨k0,k0,k0⟩
theorem EM(l:cC):(cS m l).Nodup:=(JY m l).imp λh e=>by subst e;rw[Zc]at h;cases h
theorem DE{l l':cC}(h:∀r∈cS m l,r∈cS m l'):j9 (cS m l)<=j9 (cS m l'):=by
 letI:DecidableEq cX:=λa b=>Classical.propDecidable _
 exact nz (EM l) h
theorem nA(b:bV m=eR){l:cC}:oz m l=eR↔∀c∈bs m,c∈l:=by unfold oz;rw[b,zQ,qU];exact⟨λh c a=>j8 (h c a),λh c a=>j6 (h c a)⟩
theorem oQ(l:cC):j9 (bM m l)=j9 (bs m)+j9 (cS m l):=by unfold bM ox;rw[qy,qw]
structure DK (m:aE) (d d':bp):Prop where
 lost:d'.lost=d.lost
 room:d'.room=d.room
 recs:∀r∈cS m d.l,r∈cS m d'.l
 whole:oz m d.l=eR->oz m d'.l=eR
theorem DK.refl(d:bp):DK m d d:=⟨k0,k0,λ_ h=>h,λh=>h⟩
theorem DK.trans{a b c:bp}(e:DK m a b)(d:DK m b c):DK m a c:=⟨d.lost.trans e.lost,d.room.trans e.room,λr h=>d.recs r (e.recs r h),λh=>d.whole (e.whole h)⟩
structure iG (m:aE) (ds ds':aF):Prop where
 len:j9 ds'=j9 ds
 at_:∀k d,aW ds k=dB d->∃d',aW ds' k=dB d'/\DK m d d'
 no:∀k,aW ds k=eH->aW ds' k=eH
theorem iG.refl(ds:aF):iG m ds ds:=⟨k0,λ_ d h=>⟨d,h,.refl d⟩,λ_ h=>h⟩
theorem iG.trans{a b c:aF}(f:iG m a b)(e:iG m b c):iG m a c:=⟨e.len.trans f.len,λk d i=>by
 obtain⟨n,j,o⟩:=f.at_ k d i;obtain⟨p,l,g⟩:=e.at_ k n j;exact⟨p,l,o.trans g⟩,λk h=>e.no k (f.no k h)⟩
theorem iG.set{k:Int}{d e:bp}(a:j9 ds=64)(f:aW ds k=dB d)(h:DK m d e):iG m ds (bT ds k e):=⟨AD _ _ _,λs x b=>by
 rw[gH a f];split
 ·rename_i c;subst c;rw[f]at b;injection b with b;subst b
  exact⟨_,k0,h⟩
 ·exact⟨x,b,.refl x⟩,λs c=>by
 rw[gH a f];split
 ·rename_i h;subst h;rw[f]at c;cases c
 ·exact c⟩
theorem iG.live{ds':aF}(K:iG m ds ds')(l:au):be ds' l=be ds l:=by
 unfold be;refine List.filter_congr λx _=>?_;unfold isLive;cases hd:aW ds x with
 |none=>rw[K.no x hd]
 |some d=>
  obtain⟨a,e,k⟩:=K.at_ x d hd;rw[e];simp only[k.lost]
theorem iG.syms{ds':aF}(K:iG m ds ds'){o b k:Int}{id:Int}(h:id∈(dM m ds o b k).map qM):id∈(dM m ds' o b k).map qM:=by obtain⟨x,a,rfl⟩:=qo.1 h;obtain⟨d,r,i,j,g,c,rfl⟩:=kW a;obtain⟨l,e,f⟩:=K.at_ k d i;refine qo.2 ⟨(r.id,r.data),?_,k0⟩;unfold dM;rw[e];exact qo.2 ⟨r,qH.2 ⟨f.recs r j,by rw[g,c];simp⟩,k0⟩
theorem Xc(a:bV m=eR){d:bp}(b:∀c∈d.l,dY m C c):DK m d {d with l:=bM m d.l,wait:=0,laid:=[],has:=eS}:=
 ⟨k0,k0,λr h=>(ud a b).2 h,λ_=>(nA a).2 λc h=>zn _ h⟩
structure Tidy (m:aE) (d:bp):Prop where
 whole:oz m d.l=eR
 keep:j9 (bM m d.l)<=j9 d.l
 room:j9 d.l<=d.room
theorem Qm(a:bV m=eR){d:bp}(e:∀c∈d.l,dY m C c)(b:j9 (bM m d.l)<=d.room):Tidy m {d with l:=bM m d.l,wait:=0,laid:=[],has:=eS}:=
 ⟨(nA a).2 λc h=>zn _ h,by
  show(bM m (bM m d.l)).length<=j9 (bM m d.l);rw[oQ,oQ];exact Nat.add_le_add_left (DE λr h=>(ud a e).1 h) _,b⟩
theorem oB{k:Int}{w:Pow}:∀{live:au} {w:Pow} {ds:aF},j9 ds=64->k∉live->aW (cO m live w ds).2.2 k=aW ds k
 |[],_,_,_,_=>rfl
 |j::live,w,ds,h64,hk=>by
  have b:k≠j:=λe=>hk (by rw[e];exact qI);have a:k∉live:=λh=>hk (qC _ h);unfold cO;cases hd:aW ds j with
  |none=>exact oB (w:=w) h64 a
  |some d=>
   dsimp only;split
   ·exact oB (w:=w) h64 a
   ·have e:aW (bT ds j (d.rewrite w (bM m d.l)).2.2) k=aW ds k:=by rw[gH h64 hd,j3 b]
    split
    ·rw[oB (w:=w) (by rw[AD];exact h64) a,e]
    ·exact e
theorem rF:∀{live:au} {ds:aF},live.Nodup->ee m C ds->(∀k∈live,∃d,aW ds k=dB d/\d.lost=eS)->(∀k d,aW ds k=dB d->j9 d.l<=d.room/\d.wait=0)->
  (cO m live Pow.new ds).2.1=Pow.new/\((cO m live Pow.new ds).1=0∨(cO m live Pow.new ds).1=7)/\ee m C (cO m live Pow.new ds).2.2/\iG m ds (cO m live Pow.new ds).2.2/\
  (∀k d,aW (cO m live Pow.new ds).2.2 k=dB d->j9 d.l<=d.room/\d.wait=0)/\
  ((∀k d,aW ds k=dB d->k∈live->j9 (bM m d.l)<=d.room)->(cO m live Pow.new ds).1=0)/\
  ((cO m live Pow.new ds).1=0->∀k∈live,∀d,aW (cO m live Pow.new ds).2.2 k=dB d->Tidy m d)
 |[],ds,_,S,_,hw=>⟨k0,.inl k0,S,.refl _,hw,λ_=>rfl,λ_ k H=>by cases H⟩
 |k::live,ds,i,S,hlv,hw=>by
  obtain⟨g,i⟩:=wP.1 i;obtain⟨d,n,G⟩:=hlv k qI;have r:=S.cells k d n;have p:=λj f=>hlv j (qC _ f);unfold cO;rw[n];dsimp only;by_cases e:d.l=bM m d.l
  ·rw[j1 e];obtain⟨B,D,a3,a4,a5,v,y⟩:=rF (live:=live) i S p hw;refine⟨B,D,a3,a4,a5,λh=>v λj x a f=>h j x a (qC _ f),λh0 j f x a=>?_⟩;rcases qV.1 f with rfl|f
   ·rw[oB (w:=Pow.new) S.len g,n]at a;injection a with a
    subst a;exact⟨(nA S.may).2 λc r=>by rw[e];exact zn _ r,by rw[<-e];exact ql _,(hw j d n).1⟩
   ·exact y h0 j f x a
  ·rw[j3 e];by_cases u:j9 (bM m d.l)<=d.room
   ·have A:=AC kg (rv m d.l) G u;rw[A];dsimp only;rw[j1 rfl];have E:=Xc S.may r;have F:ee m C (bT ds k {d with l:=bM m d.l,wait:=0,laid:=[],has:=eS}):=S.aes n (IZ S.may r);have o:=λs=>gH (d:={d with l:=bM m d.l,wait:=0,laid:=[],has:=eS}) S.len n s;have I:iG m ds (bT ds k {d with l:=bM m d.l,wait:=0,laid:=[],has:=eS}):=.set S.len n E;obtain⟨B,D,a3,a4,a5,v,y⟩:=rF (live:=live) i F (λj f=>by
     obtain⟨x,a,z⟩:=p j f;have q:j≠k:=λh=>g (by rw[<-h];exact f);exact⟨x,by rw[o,j3 q];exact a,z⟩) (λj x a=>by
     rw[o]at a;split at a
     ·injection a with a;subst a;exact⟨u,k0⟩
     ·exact hw j x a)
    refine⟨B,D,a3,I.trans a4,a5,λh=>v λj x a f=>?_,λh0 j f x a=>?_⟩
    ·have q:j≠k:=λh=>g (by rw[<-h];exact f);rw[o,j3 q]at a;exact h j x a (qC _ f)
    ·rcases qV.1 f with rfl|f
     ·rw[oB (w:=Pow.new) F.len g,o,j1 rfl]at a;injection a with a
      subst a;exact Qm S.may r u
     ·exact y h0 j f x a
   ·have A:d.rewrite Pow.new (bM m d.l)=(7,Pow.new,d):=by unfold bp.rewrite;have t:(bM m d.l).all (λb=>decide (j9 b=64))=eR:=qU.2 λc h=>j6 (rv m d.l c h);rw[t,j3 k6,j3 (by rw[G];decide),j1 k4]
    rw[A];dsimp only;rw[j3 (show¬(7:Int)=0 by decide),PT n];exact⟨k0,.inr k0,S,.refl _,hw,λh=>absurd (h k d n qI) u,λh=>absurd h (show¬(7:Int)=0 by decide)⟩
structure Io (m:aE) (C:Int->aY) (e:Wl.bK) (i:Nat) (x:gY):Prop where
 he:e∈m.aG
 hi:i<e.tries.length
 o:x.o=e.object
 b:x.b=i
 seed:x.seed=bI e.object i (e.tries.getD i 0)
 M:x.M=dn m.p x.seed (fo m C e.object i)
theorem Io.Ia{e:Wl.bK}{i:Nat}{x:gY}(X:Io m C e i x)(id:Nat):x.Ia m id=ke m e.object i (bI e.object i (e.tries.getD i 0)) (fo m C e.object i) id:=by unfold gY.Ia ke uv;rw[X.M,X.o,X.b,X.seed]
theorem Ip(S:ee m C ds){e:Wl.bK}(c:e∈m.aG){i:Nat}(d:i<e.tries.length){id:Nat}(hid:id<=65535):dY m C (cL (ke m e.object i (bI e.object i (e.tries.getD i 0)) (fo m C e.object i) id)):=by
 have a:=S.ub c d hid;have b:=kE a (gx _ _ _);refine⟨λr h=>?_,λr h _=>?_,λg h=>?_⟩
 ·rw[b]at h;injection h with h;subst h
  exact S.old c
 ·rw[b]at h;injection h with h;subst h
  rfl
 ·rw[Nq a]at h;cases h
theorem Iq{W:bz}:cP W<=j9 W.flatten:=by
 have h:=nz (l:=(qx (cP W)).map λi:Nat=>(i:Int)) (m:=W.flatten) (by
  rw[List.Nodup,wF];exact ya.imp λh e=>k4) λx b=>by
   obtain⟨j,c,rfl⟩:=qo.1 b;have:=HZ (qD.1 c);unfold kt at this;rw[wc]at this;obtain⟨l,d,a⟩:=this;exact wY.2 ⟨l,d,j8 a⟩
 simpa using h
theorem Lg{W:bz}{c:Nat}(h:∀l∈W,j9 l<=c):j9 W.flatten<=j9 W*c:=by
 induction W with
 |nil=>simp
 |cons l W ih=>
  rw[List.flatten_cons,qy,zm,zO];have d:=h l qI;have b:=ih λz a=>h z (qC _ a);omega
theorem BU{live:au}{s:Int}(h:s∈live):∃k:Nat,dG live s=k/\∃a:k<j9 live,live[k]=s:=by
 unfold dG;cases hx:live.idxOf? s with
 |none=>
  unfold List.idxOf? at hx;rw[List.findIdx?_eq_none_iff]at hx;have:=hx s h;simp at this
 |some k=>
  unfold List.idxOf? at hx;obtain⟨a,b,_⟩:=List.findIdx?_eq_some_iff_getElem.1 hx;exact⟨k,k0,a,m5⟩
def JZ(m:aE)(live:au)(ds:aF)(x:gY):Prop:=∀k (a:k<j9 live),∀id∈x.W.getD k [],id∈(dM m ds x.o x.b live[k]).map qM
theorem JZ.keep{live:au}{ds':aF}{x:gY}(h:JZ m live ds x)(K:iG m ds ds'):JZ m live ds' x:=λk a id hid=>K.syms (h k a id hid)
theorem Wi(e:bV m=eR){d:bp}{c:aY}{f:cX}(i:∀z∈d.l,dY m C z)(j:dY m C c)(s:dJ c=dB f)(h:Tidy m d)(g:j9 d.l+1<=d.room)(n:Nat):Tidy m {d with l:=d.l++[c],wait:=n,laid:=[],has:=eS}:=by
 refine⟨(nA e).2 λz p=>zn _ ((nA e).1 h.whole z p),?_,k8⟩;show(bM m (d.l++[c])).length<=j9 (d.l++[c]);have o:=h.keep;rw[oQ]at o⊢;have k:j9 (cS m (d.l++[c]))<=j9 (cS m d.l++[f]):=by
  letI:DecidableEq cX:=λa b=>Classical.propDecidable _
  refine nz (EM _) λr g=>?_;obtain⟨a,b,q⟩:=gu g;rcases qA.1 a with a|a
  ·exact zn _ (lm e i a b q)
  ·rw[qB.1 a,s]at b;injection b with b
   exact zE _ (by rw[b];simp)
 simp at k⊢;omega
theorem acb(b:bV m=eR){d:bp}{n:Int}(a:∀c∈d.l,dY m C c)(h:Tidy m d):Tidy m (cE m d n):=by
 unfold cE;split
 ·exact h
 ·exact Qm b a (zf h.keep h.room)
theorem agB(b:bV m=eR){d:bp}{n:Int}(a:∀c∈d.l,dY m C c):DK m d (cE m d n):=by
 unfold cE;split
 ·exact .refl d
 ·exact Xc b a
structure kq (m:aE) (C:Int->aY) (live:au) (ds:aF) (got:au):Prop where
 sto:ee m C ds
 lv:∀k∈live,∃d,aW ds k=dB d/\d.lost=eS
 wt:∀k d,aW ds k=dB d->d.wait=0∨k∈got
 tidy:∀k∈live,∀d,aW ds k=dB d->Tidy m d
 rm:∀k d,aW ds k=dB d->j9 d.l<=d.room/\d.room<=512
theorem sV{live set order:au}{c:aY}{id:Nat}{w:Pow}:∀l:List Nat,(fJ m live set order c id w ds l).1=(7,w,ds)∨
  ∃i∈l,∃d,aW ds (dK order ((id:Int)+i))=dB d/\fy m d 1=eR/\fJ m live set order c id w ds l=(ir m c w ds (dK order ((id:Int)+i)) d,dG live (dK order ((id:Int)+i)),dK order ((id:Int)+i))
 |[]=>.inl k0
 |i::l=>by
  unfold fJ;dsimp only;have step:∀{P:Prop},(fJ m live set order c id w ds l).1=(7,w,ds)∨(∃i∈l,∃d,aW ds (dK order ((id:Int)+i))=dB d/\fy m d 1=eR/\fJ m live set order c id w ds l=(ir m c w ds (dK order ((id:Int)+i)) d,dG live (dK order ((id:Int)+i)),dK order ((id:Int)+i)))->
   (fJ m live set order c id w ds l).1=(7,w,ds)∨(∃j∈i::l,∃d,aW ds (dK order ((id:Int)+j))=dB d/\fy m d 1=eR/\fJ m live set order c id w ds l=(ir m c w ds (dK order ((id:Int)+j)) d,dG live (dK order ((id:Int)+j)),dK order ((id:Int)+j))):=λ{P} h=>by
    rcases h with h|⟨j,hj,r⟩
    ·exact .inl h
    ·exact .inr ⟨j,qC _ hj,r⟩
  cases hd:aW ds (dK order ((id:Int)+i))with
  |none=>exact step (P:=True) (sV l)
  |some d=>
   dsimp only;by_cases a:dG live (dK order ((id:Int)+i))∈set∨fy m d 1=eS
   ·rw[j1 a];exact step (P:=True) (sV l)
   ·rw[j3 a];exact .inr ⟨i,qI,d,hd,by cases hf:fy m d 1 with|true=>rfl|false=>exact absurd (.inr hf) a,rfl⟩
theorem Ir{live set:au}{e:Wl.bK}{i:Nat}{x:gY}(ap:live.length<=9)(Q:kq m C live ds x.got)(X:Io m C e i x)(F:kh m live x)(O:JZ m live ds x):
  (dc m live set Pow.new ds x).2.1=Pow.new/\((dc m live set Pow.new ds x).1=0∨(dc m live set Pow.new ds x).1=7)/\iG m ds (dc m live set Pow.new ds x).2.2.1/\
  kq m C live (dc m live set Pow.new ds x).2.2.1 (dc m live set Pow.new ds x).2.2.2.got/\Io m C e i (dc m live set Pow.new ds x).2.2.2/\JZ m live (dc m live set Pow.new ds x).2.2.1 (dc m live set Pow.new ds x).2.2.2:=by
 have t:cP x.W<=65535:=by
  have T:=Iq (W:=x.W);have h2:=Lg (W:=x.W) (c:=4160) λl Y=>by have:=F.rl l Y;have:=F.gl;omega
  have h3:=F.wl;have h4:x.W.length*4160<=9*4160:=zo _ k4;omega
 have g:=Q.sto.counts X.he X.hi t;have E:=Q.sto.ub X.he X.hi t;have A:=Ip Q.sto X.he X.hi t;obtain⟨p,u⟩:∃p,p=ke m e.object i (bI e.object i (e.tries.getD i 0)) (fo m C e.object i) (cP x.W):=⟨_,rfl⟩
 rw[<-u]at g E A;have L:=kE E (by rw[u];exact gx _ _ _);have ad:(cL p).length=64:=xP E;have eP:dc m live set Pow.new ds x=(let r:=fJ m live set (cK x.o x.b live) (cL p) (cP x.W) Pow.new ds (qx (cK x.o x.b live).length);(r.1.1,r.1.2.1,r.1.2.2,if r.1.1=0 then x.nw (cP x.W) r.2.1 r.2.2 else x)):=by rw[u,<-X.Ia];rfl
 rw[eP];dsimp only;obtain⟨o,ho⟩:∃o,o=cK x.o x.b live:=⟨_,rfl⟩
 rw[<-ho];rcases sV (m:=m) (ds:=ds) (live:=live) (set:=set) (order:=o) (c:=cL p) (id:=cP x.W) (w:=Pow.new) (qx o.length)with h|⟨j,S,d,hd,hf,h⟩
 ·rw[h];dsimp only;rw[j3 (show¬(7:Int)=0 by decide)];exact⟨k0,.inr k0,.refl _,Q,X,O⟩
 obtain⟨s,hs⟩:∃s,s=dK o ((cP x.W:Int)+j):=⟨_,rfl⟩
 rw[<-hs]at hd h;have S:=qD.1 S;have G:s∈live:=by rw[hs];exact xp (by rw[<-ho];exact IX (by intro h;rw[h]at S;simp at S))
 obtain⟨kk,V,Z,am⟩:=BU G;have U:=Q.sto.cells s d hd;obtain⟨r1,r2,r3⟩:=ww hf;have ea:ir m (cL p) Pow.new ds s d=(0,Pow.new,bT ds s {cE m d 1 with l:=(cE m d 1).l++[cL p],wait:=(cE m d 1).wait+1,laid:=[],has:=eS}):=by unfold ir;rw[EF kg hf];dsimp only;rw[j3 λh=>h k0,Cy (n:=0) kg r1 k4 ad];dsimp only;rw[rD]
 rw[h,ea];dsimp only;rw[j1 rfl];obtain⟨y,q⟩:∃y,y={cE m d 1 with l:=(cE m d 1).l++[cL p],wait:=(cE m d 1).wait+1,laid:=[],has:=eS}:=⟨_,rfl⟩
 rw[<-q];have B:=Q.sto.may;have I:=Ja B U (N:=1);have R:∀c∈y.l,dY m C c:=λc f=>by
  rw[q]at f;rcases qA.1 f with f|f
  ·exact I c f
  ·rw[qB.1 f];exact A
 have H:DK m d y:=(agB B U (n:=1)).trans (by
  rw[q];refine⟨k0,k0,λr hr=>aeu B (l:=(cE m d 1).l) (l':=(cE m d 1).l++[cL p]) (λc f=>by
   rcases qA.1 f with f|f
   ·exact I c f
   ·rw[qB.1 f];exact A) (λc f=>zn _ f) hr,λhw=>(nA B).2 λc f=>zn _ ((nA B).1 hw c f)⟩)
 have K:iG m ds (bT ds s y):=.set Q.sto.len hd H;have v:=λz=>gH (d:=y) Q.sto.len hd z;have S':ee m C (bT ds s y):=Q.sto.aes hd R;have P:Tidy m y:=by rw[q];exact Wi B I A L (acb B U (Q.tidy s G d hd)) k4 _
 refine⟨k0,.inl k0,K,⟨S',λk D=>?_,λk z a=>?_,λk D z a=>?_,λk z a=>?_⟩,⟨X.he,X.hi,X.o,X.b,X.seed,X.M⟩,λk D id hid=>?_⟩
 ·rw[v];split
  ·exact⟨y,k0,by rw[H.lost];obtain⟨z,a,Y⟩:=Q.lv s G;rw[hd]at a;injection a with a;rw[a];exact Y⟩
  ·exact Q.lv k D
 ·show z.wait=0∨k∈x.got++[s]
  rw[v]at a;split at a
  ·rename_i D;rw[D];exact .inr k9
  ·rcases Q.wt k z a with h|h
   ·exact .inl h
   ·exact .inr (zn _ h)
 ·rw[v]at a;split at a
  ·injection a with a
   rw[<-a];exact P
  ·exact Q.tidy k D z a
 ·rw[v]at a;split at a
  ·injection a with a
   rw[<-a];exact⟨P.room,by rw[H.room];exact(Q.rm s d hd).2⟩
  ·exact Q.rm k z a
 ·have hid:id∈(x.W.set (dG live s).toNat (x.W.getD (dG live s).toNat []++[(cP x.W:Int)])).getD k []:=hid;rw[V,qn]at hid;show id∈(dM m (bT ds s y) x.o x.b live[k]).map qM;have ah:kk<x.W.length:=by rw[F.wl];exact Z
  by_cases J:k=kk
  ·subst J;rw[dT [] (by rw[List.length_set];exact ah),List.getElem_set_self]at hid;rcases qA.1 hid with T|T
   ·exact K.syms (O k D id T)
   ·rw[qB.1 T,am];refine qo.2 ⟨(p.id,p.data),?_,by rw[u];rfl⟩;unfold dM;rw[v,j1 rfl];refine qo.2 ⟨p,qH.2 ⟨lm B R (by rw[q];exact zE _ k9) L g,?_⟩,k0⟩;rw[X.o,X.b,u];show(decide (e.object=e.object)&&decide ((i:Int)=(i:Int)))=eR;simp
  ·rw[qe,zN λh=>J h.symm,<-qe]at hid;exact K.syms (O k D id hid)
end Go.Qw
namespace Go.Qw
open Go Go.Vc Go.Proofs Wl
variable {m:aE} {C:Int->aY} {ds:aF}
theorem BV{p:Pm}(d:bH p=eR){seed:Int}{W:bz}{t:Int}(a:0<=t/\t<=j9 W)(c:j9 W<=64)(b:¬gw W.length t>4096):gU p seed W t=match jJ p seed W t.toNat with|some g=>(g,eR,0)|none=>([],eS,0):=by unfold gU;rw[j1 d,j1 ⟨a.1,a.2,c⟩,j3 b];rfl
theorem xr{live:au}{t most:Int}{e:Wl.bK}{i:Nat}(k:0<=t/\t<=j9 live)(b:j9 live<=9)(n:¬gw live.length t>4096)(a:most<=64):∀(f:Nat) (ds:aF) (x:gY),kq m C live ds x.got->Io m C e i x->kh m live x->JZ m live ds x->
  (cj m live t most f Pow.new ds x).2.1=Pow.new/\((cj m live t most f Pow.new ds x).1=0∨(cj m live t most f Pow.new ds x).1=7∨(cj m live t most f Pow.new ds x).1=12)/\iG m ds (cj m live t most f Pow.new ds x).2.2.1/\
  kq m C live (cj m live t most f Pow.new ds x).2.2.1 (cj m live t most f Pow.new ds x).2.2.2.got/\Io m C e i (cj m live t most f Pow.new ds x).2.2.2/\kh m live (cj m live t most f Pow.new ds x).2.2.2/\JZ m live (cj m live t most f Pow.new ds x).2.2.1 (cj m live t most f Pow.new ds x).2.2.2/\
  ((cj m live t most f Pow.new ds x).1=0->jJ m.p x.seed (cj m live t most f Pow.new ds x).2.2.2.W t.toNat=eH)/\
  (jJ m.p x.seed x.W t.toNat=eH->0<f->cj m live t most f Pow.new ds x=(0,Pow.new,ds,x))
 |0,ds,x,Q,X,F,O=>⟨k0,.inr (.inr k0),.refl _,Q,X,F,O,λh=>absurd h (show¬(12:Int)=0 by decide),λ_ h=>absurd h k6⟩
 |f+1,ds,x,Q,X,F,O=>by
  have j:=BV Q.sto.ny (seed:=x.seed) (W:=x.W) (t:=t) ⟨k.1,by rw[F.wl];exact k.2⟩ qb (by rw[F.wl];exact n);unfold cj;dsimp only;rw[j];cases hwk:jJ m.p x.seed x.W t.toNat with
  |none=>
   dsimp only;rw[j3 λh=>h k0,j1 rfl];exact⟨k0,.inl k0,.refl _,Q,X,F,O,λ_=>hwk,λ_ _=>rfl⟩
  |some g=>
   dsimp only;rw[j3 λh=>h k0,j3 k6];by_cases o:(j9 x.got:Int)>=most
   ·rw[j1 o];exact⟨k0,.inr (.inr k0),.refl _,Q,X,F,O,λh=>absurd h (show¬(12:Int)=0 by decide),λh=>l9⟩
   ·rw[j3 o];obtain⟨d,r,a3,a4,a5,c⟩:=Ir (set:=g) b Q X F O;have l:=(AI (set:=g) (w:=Pow.new) (ds:=ds) F k4).1;obtain⟨q,B⟩:∃q,q=dc m live g Pow.new ds x:=⟨_,rfl⟩
    rw[<-B]at d r a3 a4 a5 c l⊢;by_cases h0:q.1≠0
    ·rw[j1 h0];exact⟨d,r.elim (λh=>absurd h h0) λh=>.inr (.inl h),a3,a4,a5,l,c,λh=>absurd h h0,λh=>l9⟩
    ·rw[j3 h0,d];obtain⟨s,A,u,D,z,E,v,b8,_⟩:=xr k b n a f q.2.2.1 q.2.2.2 a4 a5 l c;have y:q.2.2.2.seed=x.seed:=by rw[a5.seed,X.seed]
     rw[y]at b8;exact⟨s,A,a3.trans u,D,z,E,v,b8,λh=>l9⟩
theorem kq.fit{live got:au}(Q:kq m C live ds got):Fit ds live []:=⟨Q.sto.len,λs b=>by
 obtain⟨d,a,c⟩:=Q.lv s b;exact⟨d,a,c,by have:=(Q.tidy s b d a).room;simp;omega⟩⟩
theorem kq.sync{live got:au}(Q:kq m C live ds got)(t:∀s∈got,s∈live)(p:∀s∈live,0<=s/\s<64):
  (eN (cI got) Pow.new ds).1=0/\(eN (cI got) Pow.new ds).2.1=Pow.new/\iG m ds (eN (cI got) Pow.new ds).2.2/\kq m C live (eN (cI got) Pow.new ds).2.2 []/\∀k,(aW (eN (cI got) Pow.new ds).2.2 k).map bp.l=(aW ds k).map bp.l:=by
 obtain⟨w,o,a3⟩:=EE kg (cI got) ds Q.fit λs u=>by
  unfold cI at u;exact t s (j8 (qH.1 u).2)
 obtain⟨D,v⟩:∃D,D=(eN (cI got) Pow.new ds).2.2:=⟨_,rfl⟩
 rw[<-v]at o a3⊢;have g:∀k d,aW ds k=dB d->∃b,aW D k=dB b/\b.l=d.l/\b.room=d.room/\b.lost=d.lost/\(b.wait=0∨b.wait=d.wait/\k∉cI got):=λk d c=>by
  rw[a3,c];refine⟨_,k0,?_⟩;split
  ·exact⟨k0,k0,k0,.inl k0⟩
  ·exact⟨k0,k0,k0,.inr ⟨k0,p9⟩⟩
 have j:∀k,aW ds k=eH->aW D k=eH:=λk h=>by rw[a3,h];rfl
 have f:∀k b,aW D k=dB b->∃d,aW ds k=dB d:=λk b h=>by
  cases c:aW ds k with
  |none=>rw[j k c]at h;cases h
  |some d=>exact⟨d,k0⟩
 refine⟨w,ED kg _ _,⟨by rw[o.len,Q.sto.len],λk d c=>?_,j⟩,⟨⟨Q.sto.may,o.len,λk b a=>?_,Q.sto.ents⟩,λk q=>?_,λk b a=>?_,λk q b a=>?_,λk b a=>?_⟩,λk=>?_⟩
 ·obtain⟨b,e,i,n,h3,_⟩:=g k d c;exact⟨b,e,h3,n,λr A=>by rw[i];exact A,λh=>by rw[i];exact h⟩
 ·obtain⟨d,c⟩:=f k b a;obtain⟨z,e,i,_⟩:=g k d c;rw[a]at e;injection e with e;subst e
  rw[i];exact Q.sto.cells k d c
 ·obtain⟨d,c,x⟩:=Q.lv k q;obtain⟨b,e,_,_,h3,_⟩:=g k d c;exact⟨b,e,by rw[h3];exact x⟩
 ·obtain⟨d,c⟩:=f k b a;obtain⟨z,e,_,_,_,y⟩:=g k d c;rw[a]at e;injection e with e;subst e
  rcases y with h|⟨h,hn⟩
  ·exact .inl h
  ·rcases Q.wt k d c with h5|h5
   ·exact .inl (h.trans h5)
   ·exact absurd ((Cz (p k (t k h5))).2 h5) hn
 ·obtain⟨d,c⟩:=f k b a;obtain⟨z,e,i,n,_,_⟩:=g k d c;rw[a]at e;injection e with e;subst e
  have:=Q.tidy k q d c;exact⟨by rw[i];exact this.whole,by rw[i];exact this.keep,by rw[i,n];exact this.room⟩
 ·obtain⟨d,c⟩:=f k b a;obtain⟨z,e,i,n,_,_⟩:=g k d c;rw[a]at e;injection e with e;subst e
  rw[i,n];exact Q.rm k d c
 ·cases c:aW ds k with
  |none=>rw[j k c]
  |some d=>
   obtain⟨b,e,i,_⟩:=g k d c;rw[e];simp[i]
structure nV (m:aE) (live:au) (ds:aF) (t most:Int):Prop where
 lv:live=be ds m.drives
 few:j9 live<=9
 tt:0<=t/\t<j9 live
 c:¬gw live.length t>4096
 mo:0<=most/\most<=64
 slots:∀s∈live,0<=s/\s<64
def jU(m:aE)(live:au)(ds:aF)(t:Int)(e:Wl.bK)(i:Nat):Prop:=jJ m.p (bI e.object i (e.tries.getD i 0)) (cv m ds e.object i live) t.toNat=eH
theorem gv(m:aE)(ds:aF)(o b:Int)(live:au):j9 (cv m ds o b live)=j9 live:=by unfold cv;rw[qw]
theorem jU.keep{live:au}{ds':aF}{t:Int}{e:Wl.bK}{i:Nat}(h:jU m live ds t e i)(K:iG m ds ds'):jU m live ds' t e i:=by
 refine Im (by rw[gv,gv]) (λk x a=>?_) h;by_cases b:k<j9 live
 ·rw[jw b]at a⊢;exact K.syms a
 ·rw[qe,qQ A1]at a;cases a
theorem Is{live:au}{t most:Int}{e:Wl.bK}{i:Nat}(Z:nV m live ds t most)(S:ee m C ds)(r:e∈m.aG)(y:i<e.tries.length)(q:∀k d,aW ds k=dB d->d.l.length<=512):
  ((dZ m live ds e.object e.tries i).1=0∨(dZ m live ds e.object e.tries i).1=11)/\
  ((dZ m live ds e.object e.tries i).1=0->Io m C e i (dZ m live ds e.object e.tries i).2/\JZ m live ds (dZ m live ds e.object e.tries i).2/\(dZ m live ds e.object e.tries i).2.W=cv m ds e.object i live)/\
  (jU m live ds t e i->(dZ m live ds e.object e.tries i).1=0):=by
 have g:=S.AJ r y;unfold Wl.AJ at g;rw[<-Z.lv]at g;obtain⟨K,H,w,n,B⟩:=S.fO r y;have u:im m.p (bI e.object i (e.tries.getD i 0)) (fo m C e.object i).length=0:=B.im;unfold dZ;dsimp only;rw[g,<-Z.lv];by_cases f:eI m.p (bI e.object i (e.tries.getD i 0)) (iT m ds e.object i)=eR
 ·rw[j1 f];dsimp only;rw[j3 λh=>h k0,j3 λh=>h u];refine⟨.inl k0,λ_=>⟨⟨r,y,k0,k0,k0,k0⟩,λk A id hid=>?_,k0⟩,λ_=>rfl⟩;dsimp only at hid⊢;rw[jw A]at hid;exact hid
 ·rw[j3 f];dsimp only;rw[j1 (show¬(9:Int)=0 by decide)];refine⟨.inr k0,λh=>absurd h (show¬(11:Int)=0 by decide),λv=>absurd ?_ f⟩;unfold jU at v;obtain⟨W,s⟩:∃W,W=cv m ds e.object i live:=⟨_,rfl⟩
  rw[<-s]at v;have D:W.length=live.length:=by rw[s];exact gv _ _ _ _ _
  have j:ints (qx t.toNat)∈xn W.length t.toNat:=qo.2 ⟨_,Sr k9 (λx o=>by have:=qD.1 o;have:=Z.tt;omega) ya,k0⟩;have F:(mG m.p (bI e.object i (e.tries.getD i 0)) W (ints (qx t.toNat)):Int)=bD m.p:=by have:=yh.1 v _ j;simpa using this
  have a:eI m.p (bI e.object i (e.tries.getD i 0)) (mT W (ints (qx t.toNat)) W.length)=eR:=by unfold eI;rw[S.ny,zQ];exact beq_iff_eq.2 F
  refine ua S.ny (λx o=>?_) a;obtain⟨k,A,_,c⟩:=(uc W _ x W.length).1 o;have b:k<live.length:=k4
  rw[s,jw b]at c;obtain⟨z,E,rfl⟩:=qo.1 c;unfold iT fc;exact qo.2 ⟨z,zB.2 ⟨live[k],by rw[<-Z.lv];exact qh b,E⟩,k0⟩
theorem Ka{live:au}{t most:Int}{e:Wl.bK}{i:Nat}(Z:nV m live ds t most)(Q:kq m C live ds [])(H:e∈m.aG)(R:i<e.tries.length):
  (bY m live t most Pow.new ds e i).2.1=Pow.new/\((bY m live t most Pow.new ds e i).1=0∨(bY m live t most Pow.new ds e i).1=7∨(bY m live t most Pow.new ds e i).1=11∨(bY m live t most Pow.new ds e i).1=12)/\iG m ds (bY m live t most Pow.new ds e i).2.2.1/\ee m C (bY m live t most Pow.new ds e i).2.2.1/\kq m C live (bY m live t most Pow.new ds e i).2.2.1 []/\
  ((bY m live t most Pow.new ds e i).1=0->jU m live (bY m live t most Pow.new ds e i).2.2.1 t e i)/\
  (jU m live ds t e i->bY m live t most Pow.new ds e i=(0,Pow.new,ds,0)):=by
 have a:∀k d,aW ds k=dB d->d.l.length<=512:=λk d P=>by have:=Q.rm k d P;omega
 obtain⟨w,D,u⟩:=Is Z Q.sto H R a;have z:=λh=>AK (m:=m) (live:=live) (ds:=ds) (o:=e.object) (tries:=e.tries) (i:=i) a (by rw[<-Z.lv]) h;unfold bY;dsimp only;obtain⟨p,N⟩:∃p,p=dZ m live ds e.object e.tries i:=⟨_,rfl⟩
 rw[<-N]at w D u z⊢;by_cases h0:p.1=0
 rotate_left
 ·rw[j1 h0];exact⟨k0,w.elim (λh=>absurd h h0) λh=>.inr (.inr (.inl h)),.refl _,Q.sto,Q,λh=>absurd h h0,λh=>absurd (u h) h0⟩
 rw[j3 λh=>h h0];obtain⟨X,O,I⟩:=D h0;obtain⟨F,f⟩:=z h0;have G:kq m C live ds p.2.got:=by rw[f];exact Q
 obtain⟨y,J,a3,a4,a5,g,n,r,a9⟩:=xr (most:=most) ⟨Z.tt.1,sz⟩ Z.few Z.c Z.mo.2 65 ds p.2 G X F O;obtain⟨q,M⟩:∃q,q=cj m live t most 65 Pow.new ds p.2:=⟨_,rfl⟩
 rw[<-M]at y J a3 a4 a5 g n r a9⊢;rw[j3 k4,y];obtain⟨E,L,v,A,T⟩:=a4.sync (λs S=>g.gi s S) Z.slots;rw[E,j3 λh=>h rfl];dsimp only;refine⟨L,k4,a3.trans v,A.sto,A,λh=>?_,λh=>?_⟩
 ·have h8:=r h;rw[X.seed]at h8;refine Im (V:=cv m (eN (cI q.2.2.2.got) Pow.new q.2.2.1).2.2 e.object i live) (by rw[gv,g.wl]) (λk x j=>?_) h8;by_cases B:k<live.length
  ·rw[jw B];have:=(n.keep v) k B x j;rw[a5.o,a5.b]at this;exact this
  ·rw[qe,qQ (by rw[g.wl];omega)]at j;cases j
 ·have K:=a9 (by rw[I,X.seed];exact h) k6;rw[K,f];rfl
end Go.Qw
namespace Go.Qw
open Go Go.Vc Go.Proofs Wl
variable {m:aE} {C:Int->aY} {ds:aF}
theorem nV.next{live:au}{ds':aF}{t most:Int}(Z:nV m live ds t most)(K:iG m ds ds'):nV m live ds' t most:=⟨by rw[K.live];exact Z.lv,Z.few,Z.tt,Z.c,Z.mo,Z.slots⟩
def okE(e:Int):Prop:=e=0∨e=7∨e=11∨e=12
theorem AN{live:au}{t most:Int}{e:Wl.bK}(n:e∈m.aG):∀(l:List Nat) (ds:aF) (k:Nat),(∀i∈l,i<e.tries.length)->nV m live ds t most->kq m C live ds []->
  (dU m live t most e l Pow.new ds k).2.1=Pow.new/\okE (dU m live t most e l Pow.new ds k).1/\iG m ds (dU m live t most e l Pow.new ds k).2.2.1/\kq m C live (dU m live t most e l Pow.new ds k).2.2.1 []/\
  ((dU m live t most e l Pow.new ds k).1=0->∀i∈l,jU m live (dU m live t most e l Pow.new ds k).2.2.1 t e i)/\
  ((∀i∈l,jU m live ds t e i)->dU m live t most e l Pow.new ds k=(0,Pow.new,ds,k))
 |[],ds,k,_,_,Q=>⟨k0,.inl k0,.refl _,Q,λ_ i y=>(by cases y),λ_=>rfl⟩
 |i::l,ds,k,hl,Z,Q=>by
  obtain⟨d,p,a3,a4,a5,f,c⟩:=Ka Z Q n (hl i qI);unfold dU;dsimp only;obtain⟨b,w⟩:∃b,b=bY m live t most Pow.new ds e i:=⟨_,rfl⟩
  rw[<-w]at d p a3 a4 a5 f c⊢;by_cases h0:b.1=0
  rotate_left
  ·rw[j1 h0];exact⟨d,p,a3,a5,λh=>absurd h h0,λh=>absurd (by rw[c (h i qI)]) h0⟩
  rw[j3 λh=>h h0,d];obtain⟨s,u,c3,x,v,o⟩:=AN n l b.2.2.1 (k+b.2.2.2) (λj a=>hl j (qC _ a)) (Z.next a3) a5;refine⟨s,u,a3.trans c3,x,λh j a=>?_,λh=>?_⟩
  ·rcases qV.1 a with rfl|a
   ·exact(f h0).keep c3
   ·exact v h j a
  ·have r:=c (h i qI);have g:b.2.2.1=ds:=tp
   have q:b.2.2.2=0:=tp
   rw[g,q,wO]at o;rw[g,q,wO];exact o λj a=>h j (qC _ a)
theorem Nz{live:au}{t most:Int}:∀(l:List Wl.bK) (ds:aF) (k:Nat),(∀e∈l,e∈m.aG)->nV m live ds t most->kq m C live ds []->
  (ga m live t most l Pow.new ds k).2.1=Pow.new/\okE (ga m live t most l Pow.new ds k).1/\iG m ds (ga m live t most l Pow.new ds k).2.2.1/\kq m C live (ga m live t most l Pow.new ds k).2.2.1 []/\
  ((ga m live t most l Pow.new ds k).1=0->∀e∈l,∀i<e.tries.length,jU m live (ga m live t most l Pow.new ds k).2.2.1 t e i)/\
  ((∀e∈l,∀i<e.tries.length,jU m live ds t e i)->ga m live t most l Pow.new ds k=(0,Pow.new,ds,k))
 |[],ds,k,_,_,Q=>⟨k0,.inl k0,.refl _,Q,λ_ i a=>(by cases a),λ_=>rfl⟩
 |e::l,ds,k,hl,Z,Q=>by
  obtain⟨f,o,a3,a5,g,d⟩:=AN (hl e qI) (qx e.tries.length) ds k (λi a=>qD.1 a) Z Q;unfold ga;dsimp only;obtain⟨b,w⟩:∃b,b=dU m live t most e (qx e.tries.length) Pow.new ds k:=⟨_,rfl⟩
  rw[<-w]at f o a3 a5 g d⊢;by_cases h0:b.1=0
  rotate_left
  ·rw[j1 h0];exact⟨f,o,a3,a5,λh=>absurd h h0,λh=>absurd (by rw[d λi a=>h e qI i (qD.1 a)]) h0⟩
  rw[j3 λh=>h h0,f];obtain⟨r,s,c3,x,u,n⟩:=Nz l b.2.2.1 b.2.2.2 (λj c=>hl j (qC _ c)) (Z.next a3) a5;refine⟨r,s,a3.trans c3,x,λh j c=>?_,λh=>?_⟩
  ·rcases qV.1 c with rfl|c
   ·exactλi a=>(g h0 i (qD.2 a)).keep c3
   ·exact u h j c
  ·have p:=d λi a=>h e qI i (qD.1 a);have q:b.2.2.1=ds:=by rw[p]
   have v:b.2.2.2=k:=by rw[p]
   rw[q,v]at n⊢;exact n λj c=>h j (qC _ c)
theorem Zd{live:au}{t most:Int}(Z:nV m live ds t most)(S:ee m C ds)(g:∀k d,aW ds k=dB d->d.l.length<=d.room/\d.room<=512)(w:∀k d,aW ds k=dB d->d.wait=0):
  (eK m 0 Pow.new ds t most).2.2.1=Pow.new/\okE (eK m 0 Pow.new ds t most).2.1/\iG m ds (eK m 0 Pow.new ds t most).2.2.2/\ee m C (eK m 0 Pow.new ds t most).2.2.2/\
  (∀k d,aW (eK m 0 Pow.new ds t most).2.2.2 k=dB d->d.l.length<=d.room/\d.wait=0)/\
  ((eK m 0 Pow.new ds t most).2.1=0->kq m C live (eK m 0 Pow.new ds t most).2.2.2 []/\∀e∈m.aG,∀i<e.tries.length,jU m live (eK m 0 Pow.new ds t most).2.2.2 t e i)/\
  ((∀k∈live,∀d,aW ds k=dB d->Tidy m d)->(∀e∈m.aG,∀i<e.tries.length,jU m live ds t e i)->(eK m 0 Pow.new ds t most).1=0/\(eK m 0 Pow.new ds t most).2.1=0):=by
 have n:∀k∈live,∃d,aW ds k=dB d/\d.lost=eS:=λk f=>(mw (by rw[<-Z.lv];exact f)).2;have r:live.Nodup:=by rw[Z.lv];exact lP (kG S.may)
 obtain⟨p,A,a3,a4,a5,x,y⟩:=rF r S n λk d a=>⟨(g k d a).1,w k d a⟩
 have M:=Z.tt;have E:=Z.c;have I:=Z.mo;have K:eK m 0 Pow.new ds t most=(let c:=cO m live Pow.new ds;if c.1≠0 then(0,c.1,c.2.1,c.2.2)else(let q:=ga m live t most m.aG c.2.1 c.2.2 0;(q.2.2.2,q.1,q.2.1,q.2.2.1))):=by unfold eK;rw[<-Z.lv,j3 k6,j3 k4,j3 E]
 rw[K];dsimp only;obtain⟨c,u⟩:∃c,c=cO m live Pow.new ds:=⟨_,rfl⟩
 rw[<-u]at p A a3 a4 a5 x y⊢;have b:∀k d,aW c.2.2 k=dB d->d.l.length<=d.room/\d.room<=512:=λk d a=>by
  refine⟨(a5 k d a).1,?_⟩;cases h:aW ds k with
  |none=>rw[a4.no k h]at a;cases a
  |some d0=>
   obtain⟨z,e,s⟩:=a4.at_ k d0 h;rw[a]at e;injection e with e;rw[e,s.room];exact(g k d0 h).2
 by_cases h0:c.1=0
 rotate_left
 ·rw[j1 h0];refine⟨p,A.elim (λh=>absurd h h0) λh=>.inr (.inl h),a4,a3,a5,λh=>absurd h h0,λh _=>absurd (x λk d a f=>?_) h0⟩;have:=h k f d a;exact zf this.keep this.room
 rw[j3 λh=>h h0,p];have Q:kq m C live c.2.2 []:=⟨a3,λk f=>by
  obtain⟨d,a,G⟩:=n k f;obtain⟨z,e,s⟩:=a4.at_ k d a;exact⟨z,e,by rw[s.lost];exact G⟩,λk d a=>.inl (a5 k d a).2,λk f d a=>y h0 k f d a,b⟩
 obtain⟨B,J,F,o,H,L⟩:=Nz m.aG c.2.2 0 (λe j=>j) (Z.next a4) Q;refine⟨B,J,a4.trans F,o.sto,λk d a=>⟨(o.rm k d a).1,?_⟩,λh=>⟨o,λe j i v=>H h e j i v⟩,λ_ h=>?_⟩
 ·rcases o.wt k d a with h|h
  ·exact h
  ·cases h
 ·have D:=L λe j i v=>(h e j i v).keep a4;rw[D];exact⟨k0,k0⟩
end Go.Qw
namespace Go.Qw
open Go Go.Vc Go.Proofs Wl
variable {m:aE} {C:Int->aY} {ds:aF}
def Roomy(m:aE)(G:au)(ds:aF)(k:Nat):Prop:=∀s∈G,∀d,aW ds s=dB d->j9 (bs m)+j9 (cS m d.l)+k<=d.room
theorem Roomy.le{G:au}{j k:Nat}(R:Roomy m G ds k)(h:j<=k):Roomy m G ds j:=λs b d a=>by have:=R s b d a;omega
def xt(p:Pm)(seed:Int)(live:au)(t:Nat)(G:au)(W:bz):Prop:=∀g∈xn live.length t,(∃s∈G,dG live s∉g)∨eI p seed (mT W g live.length)=eR
theorem acd{W V:bz}{g:au}{n:Nat}(h:∀k x,x∈W.getD k []->x∈V.getD k []){x:Int}(b:x∈mT W g n):x∈mT V g n:=by obtain⟨k,c,a,h3⟩:=(uc W g x n).1 b;exact(uc V g x n).2 ⟨k,c,a,h k x h3⟩
theorem xt.more{p:Pm}(a:bH p=eR){seed:Int}{live:au}{t:Nat}{G:au}{W V:bz}(h:xt p seed live t G W)(b:∀k x,x∈W.getD k []->x∈V.getD k []):xt p seed live t G V:=λg d=>
 (h g d).elim .inl λh=>.inr (ua a (λ_ c=>acd b c) h)
theorem xt.get{p:Pm}(e:bH p=eR){seed:Int}{live:au}{t:Nat}{G g:au}{W:bz}(h:xt p seed live t G W)(c:j9 W=j9 live)(b:jJ p seed W t=dB g):∃s∈G,dG live s∉g:=by
 unfold jJ at b;have d:=List.mem_of_find?_eq_some b;have a:=List.find?_some b;rw[c]at d;rcases h g d with h|h
 ·exact h
 ·unfold eI at h;rw[e,zQ,beq_iff_eq]at h;unfold mG at a;rw[c,h]at a;simp at a
theorem Qn{x:gY}{id:Nat}{k s:Int}(j:Nat)(y:Int)(h:y∈x.W.getD j []):y∈(x.nw id k s).W.getD j []:=by
 show y∈(x.W.set k.toNat (x.W.getD k.toNat []++[(id:Int)])).getD j [];by_cases a:k.toNat=j
 ·subst a;by_cases b:k.toNat<j9 x.W
  ·rw[qe,zq b];exact zn _ h
  ·rw[qe,qQ k4]at h;cases h
 ·rw[qe,zN a,<-qe];exact h
theorem agC{o:au}{s:Int}(h:s∈o)(id:Nat):∃j∈qx o.length,dK o ((id:Int)+(j:Nat))=s:=by
 obtain⟨q,a,rfl⟩:=yQ.1 h;have f:=yt id (show 0<j9 o by omega);refine⟨(q+(j9 o-id%j9 o))%j9 o,qD.2 (yt _ k4),?_⟩;unfold dK;rw[j3 λh=>h.elim (λh=>by rw[h]at a;simp at a) λh=>k4];have e:(id+(q+(j9 o-id%j9 o))%j9 o)%j9 o=q:=by
  rw[Nat.add_mod,Nat.mod_mod,<-Nat.add_mod];have d:=Nat.div_add_mod id o.length;have b:id+(q+(j9 o-id%j9 o))=q+j9 o*(id/j9 o+1):=by rw[Nat.mul_add,Nat.mul_one];omega
  rw[b,Nat.add_mul_mod_self_left,Nat.mod_eq_of_lt a]
 have c:(((id:Int)+((q+(j9 o-id%j9 o))%j9 o:Nat))%(j9 o:Int)).toNat=q:=by rw[<-Int.natCast_add,<-Int.natCast_emod,e];rfl
 rw[c];unfold IV;rw[dT _ a]
theorem EN{live set order:au}{c:aY}{id:Nat}{w:Pow}:∀l:List Nat,(∃i∈l,∃d,aW ds (dK order ((id:Int)+i))=dB d/\dG live (dK order ((id:Int)+i))∉set/\fy m d 1=eR)->
  ∃i∈l,∃d,aW ds (dK order ((id:Int)+i))=dB d/\fy m d 1=eR/\fJ m live set order c id w ds l=(ir m c w ds (dK order ((id:Int)+i)) d,dG live (dK order ((id:Int)+i)),dK order ((id:Int)+i))
 |[],h=>by obtain⟨i,o,_⟩:=h;cases o
 |i::l,h=>by
  unfold fJ;dsimp only;obtain⟨j,b,n,f,k,z3⟩:=h;cases hd:aW ds (dK order ((id:Int)+i))with
  |none=>
   dsimp only;rcases qV.1 b with rfl|b
   ·rw[f]at hd;cases hd
   ·obtain⟨a,g,r⟩:=EN (live:=live) (set:=set) (c:=c) (w:=w) l ⟨j,b,n,f,k,z3⟩;exact⟨a,qC _ g,r⟩
  |some d=>
   dsimp only;by_cases e:dG live (dK order ((id:Int)+i))∈set∨fy m d 1=eS
   ·rw[j1 e];rcases qV.1 b with rfl|b
    ·rw[f]at hd;injection hd with hd;subst hd
     rcases e with h|h
     ·exact absurd h k
     ·rw[z3]at h;cases h
    ·obtain⟨a,g,r⟩:=EN (live:=live) (set:=set) (c:=c) (w:=w) l ⟨j,b,n,f,k,z3⟩;exact⟨a,qC _ g,r⟩
   ·rw[j3 e];exact⟨i,qI,d,hd,by cases hf:fy m d 1 with|true=>rfl|false=>exact absurd (.inr hf) e,rfl⟩
theorem Kb{d:bp}{c:aY}{s:Int}(b:fy m d 1=eR)(a:j9 c=64):ir m c Pow.new ds s d=(0,Pow.new,bT ds s {cE m d 1 with l:=(cE m d 1).l++[c],wait:=(cE m d 1).wait+1,laid:=[],has:=eS}):=by obtain⟨e,g,f⟩:=ww b;unfold ir;rw[EF kg b];dsimp only;rw[j3 λh=>h k0,Cy (n:=0) kg e k4 a];dsimp only;rw[rD]
theorem ace{d:bp}{k:Nat}(a:d.lost=eS)(h:j9 (bs m)+j9 (cS m d.l)+(k+1)<=d.room):fy m d 1=eR:=by unfold fy iw;rw[a,oQ];simp only[Bool.not_false,zQ,Bool.or_eq_true,decide_eq_true_eq];omega
theorem aev(f:bV m=eR){l:cC}{c:aY}(e:∀z∈l,dY m C z):j9 (cS m (l++[c]))<=j9 (cS m l)+1:=by
 letI:DecidableEq cX:=λa b=>Classical.propDecidable _
 cases ht:dJ c with
 |none=>
  refine Nat.le_succ_of_le (DE λr d=>?_);obtain⟨a,b,q⟩:=gu d;rcases qA.1 a with a|a
  ·exact lm f e a b q
  ·rw[qB.1 a,ht]at b;cases b
 |some r0=>
  have h:=nz (m:=cS m l++[r0]) (EM (l++[c])) λr d=>by
   obtain⟨a,b,q⟩:=gu d;rcases qA.1 a with a|a
   ·exact zn _ (lm f e a b q)
   ·rw[qB.1 a,ht]at b;injection b with b
    exact zE _ (by rw[b];simp)
  simpa using h
theorem acf(b:bV m=eR){d:bp}{n:Int}(a:∀c∈d.l,dY m C c):j9 (cS m (cE m d n).l)<=j9 (cS m d.l):=by
 unfold cE;split
 ·exact ql _
 ·exact DE λr h=>(ud b a).1 h
theorem acg{live set G:au}{e:Wl.bK}{i k:Nat}{x:gY}(am:live.length<=9)(Q:kq m C live ds x.got)(X:Io m C e i x)(F:kh m live x)(I:live.Nodup)(B:∀k∈live,0<=k/\k<64)(T:∀s∈G,s∈live)(R:Roomy m G ds (k+1))(M:∃s∈G,dG live s∉set):
  (dc m live set Pow.new ds x).1=0/\Roomy m G (dc m live set Pow.new ds x).2.2.1 k:=by
 have f:cP x.W<=65535:=by
  have h1:=Iq (W:=x.W);have h2:=Lg (W:=x.W) (c:=4160) λl hl=>by have:=F.rl l hl;have:=F.gl;omega
  have h3:=F.wl;have h4:x.W.length*4160<=9*4160:=zo _ k4;omega
 have q:=Q.sto.ub X.he X.hi f;have L:=Ip Q.sto X.he X.hi f;obtain⟨p,u⟩:∃p,p=ke m e.object i (bI e.object i (e.tries.getD i 0)) (fo m C e.object i) (cP x.W):=⟨_,rfl⟩
 rw[<-u]at q L;have O:(cL p).length=64:=xP q;have eP:dc m live set Pow.new ds x=(let r:=fJ m live set (cK x.o x.b live) (cL p) (cP x.W) Pow.new ds (qx (cK x.o x.b live).length);(r.1.1,r.1.2.1,r.1.2.2,if r.1.1=0 then x.nw (cP x.W) r.2.1 r.2.2 else x)):=by rw[u,<-X.Ia];rfl
 obtain⟨v,g,K⟩:=M;have h8:=Q.sto.abS X.he;have ad:=((iP m e).1 (Q.sto.entry X.he)).2.1;have ah:=((fB m).1 ((cM m).1 Q.sto.may).1).2.1;have hi:=X.hi;have D:v∈cK x.o x.b live:=(Nx (by rw[X.o];omega) (by rw[X.b];omega) I B).2.mem_iff.2 (T v g);obtain⟨Z,H,t⟩:=agC D (cP x.W);obtain⟨S,y,E⟩:=Q.lv v (T v g);obtain⟨j,hj,d,A,U,h⟩:=EN (m:=m) (ds:=ds) (live:=live) (set:=set) (order:=cK x.o x.b live) (c:=cL p) (id:=cP x.W) (w:=Pow.new) (qx (cK x.o x.b live).length) ⟨Z,H,S,by rw[t];exact y,by rw[t];exact K,ace E (R v g S y)⟩;rw[eP];dsimp only;obtain⟨s,M⟩:∃s,s=dK (cK x.o x.b live) ((cP x.W:Int)+j):=⟨_,rfl⟩
 rw[<-M]at A h;rw[h,Kb U O];have V:=Q.sto.cells s d A;have J:=Q.sto.may;refine⟨k0,λz Y d' a=>?_⟩;dsimp only at a;rw[gH Q.sto.len A]at a;split at a
 ·rename_i P;injection a with a
  rw[<-a];have h1:=R z Y d (by rw[P];exact A);have h2:=acf (n:=1) J V;have h3:=aev J (c:=cL p) (Ja J V (N:=1));have h4:=(ww U).2.1;show(bs m).length+(cS m ((cE m d 1).l++[cL p])).length+k<=(cE m d 1).room;omega
 ·have:=R z Y d' a;omega
theorem NA{live G:au}{t most:Int}{e:Wl.bK}{i M:Nat}(A:0<=t/\t<=j9 live)(a:j9 live<=9)(I:¬gw live.length t>4096)(S:most=(M:Nat))(n:most<=64)(d:live.Nodup)(b:∀k∈live,0<=k/\k<64)(E:∀s∈G,s∈live)(k:Nat):
  ∀(f:Nat) (ds:aF) (x:gY),kq m C live ds x.got->Io m C e i x->kh m live x->JZ m live ds x->xt m.p x.seed live t.toNat G x.W->Roomy m G ds (k+(M-j9 x.got))->
  (cj m live t most f Pow.new ds x).1≠7/\Roomy m G (cj m live t most f Pow.new ds x).2.2.1 k:=by
 intro f
 induction f with
 |zero=>exactλds x Q X F O P R=>⟨λh=>absurd h (show¬(12:Int)=7 by decide),R.le k4⟩
 |succ f ih=>
  intro ds x Q X F O P R;have l:=BV Q.sto.ny (seed:=x.seed) (W:=x.W) (t:=t) ⟨A.1,by rw[F.wl];exact A.2⟩ qb (by rw[F.wl];exact I);unfold cj;dsimp only;rw[l];cases hwk:jJ m.p x.seed x.W t.toNat with
  |none=>
   dsimp only;rw[j3 λh=>h k0,j1 rfl];exact⟨show¬(0:Int)=7 by decide,R.le k4⟩
  |some g=>
   dsimp only;rw[j3 λh=>h k0,j3 k6];by_cases r:(j9 x.got:Int)>=most
   ·rw[j1 r];exact⟨show¬(12:Int)=7 by decide,R.le k4⟩
   ·rw[j3 r];obtain⟨u,L,a3,a4,a5,o⟩:=Ir (set:=g) a Q X F O;obtain⟨B,D,_⟩:=AI (set:=g) (w:=Pow.new) (ds:=ds) F k4;obtain⟨c,z⟩:=acg (set:=g) (k:=k+(M-(j9 x.got+1))) a Q X F d b E (R.le k4) (P.get Q.sto.ny F.wl hwk);obtain⟨q,N⟩:∃q,q=dc m live g Pow.new ds x:=⟨_,rfl⟩
    rw[<-N]at u L a3 a4 a5 o B D c z⊢;obtain⟨s,_,v⟩:=D c;rw[j3 λh=>h c,u];have K:q.2.2.2.seed=x.seed:=by rw[a5.seed,X.seed]
    refine ih q.2.2.1 q.2.2.2 a4 a5 B o (by rw[K];exact P.more Q.sto.ny λj y H=>by rw[v];exact Qn j y H) ?_;have J:j9 q.2.2.2.got=j9 x.got+1:=by rw[v];show(x.got++[s]).length=_;simp
    rw[J];exact z
theorem Qp{live:au}{t most:Int}{e:Wl.bK}{i:Nat}(Z:nV m live ds t most)(S:ee m C ds)(d:e∈m.aG)(c:i<e.tries.length)(f:eI m.p (bI e.object i (e.tries.getD i 0)) (iT m ds e.object i)=eR):(dZ m live ds e.object e.tries i).1=0:=by have b:=S.AJ d c;unfold Wl.AJ at b;rw[<-Z.lv]at b;obtain⟨K,H,w,n,B⟩:=S.fO d c;have a:im m.p (bI e.object i (e.tries.getD i 0)) (fo m C e.object i).length=0:=B.im;unfold dZ;dsimp only;rw[b,<-Z.lv,j1 f];dsimp only;rw[j3 λh=>h k0,j3 λh=>h a]
theorem Wj{live G:au}{t most:Int}{e:Wl.bK}{i M k:Nat}(Z:nV m live ds t most)(Q:kq m C live ds [])(hM:most=(M:Nat))(I:∀s∈G,s∈live)(D:e∈m.aG)(E:i<e.tries.length)(S:eI m.p (bI e.object i (e.tries.getD i 0)) (iT m ds e.object i)=eR)
  (P:xt m.p (bI e.object i (e.tries.getD i 0)) live t.toNat G (cv m ds e.object i live)) (R:Roomy m G ds (k+M)):
  ((bY m live t most Pow.new ds e i).1=0∨(bY m live t most Pow.new ds e i).1=12)/\Roomy m G (bY m live t most Pow.new ds e i).2.2.1 k:=by
 have a:∀k d,aW ds k=dB d->d.l.length<=512:=λk d f=>by have:=Q.rm k d f;omega
 obtain⟨U,H,T⟩:=Is Z Q.sto D E a;have A:=λh=>AK (m:=m) (live:=live) (ds:=ds) (o:=e.object) (tries:=e.tries) (i:=i) a (by rw[<-Z.lv]) h;have h0:=Qp Z Q.sto D E S;unfold bY;dsimp only;obtain⟨p,hp⟩:∃p,p=dZ m live ds e.object e.tries i:=⟨_,rfl⟩
 rw[<-hp]at U H T A h0⊢;rw[j3 λh=>h h0];obtain⟨X,O,V⟩:=H h0;obtain⟨F,g⟩:=A h0;have y:kq m C live ds p.2.got:=by rw[g];exact Q
 have r:live.Nodup:=by rw[Z.lv];exact lP (kG Q.sto.may)
 obtain⟨x,Y,a3,a4,a5,v,K,N,a9⟩:=xr (most:=most) ⟨Z.tt.1,sz⟩ Z.few Z.c Z.mo.2 65 ds p.2 y X F O;obtain⟨L,B⟩:=NA (most:=most) (M:=M) ⟨Z.tt.1,sz⟩ Z.few Z.c hM Z.mo.2 r Z.slots I k 65 ds p.2 y X F O (by rw[V,X.seed];exact P) (by rw[g];exact R);obtain⟨q,hq⟩:∃q,q=cj m live t most 65 Pow.new ds p.2:=⟨_,rfl⟩
 rw[<-hq]at x Y a3 a4 a5 v K N a9 L B⊢;rw[j3 k4,x];obtain⟨J,b2,w,b4,W⟩:=a4.sync (λs u=>v.gi s u) Z.slots;rw[J,j3 λh=>h rfl];dsimp only;refine⟨k4,λs u d' b=>?_⟩;have n:=W s;cases f:aW q.2.2.1 s with
 |none=>rw[w.no s f]at b;cases b
 |some d=>
  obtain⟨z,j,kk⟩:=w.at_ s d f;rw[b]at j;injection j with j;subst j
  rw[b,f]at n;injection n with n
  rw[n,kk.room];exact B s u d f
theorem aew{ds':aF}(K:iG m ds ds'){o b x:Int}(h:x∈iT m ds o b):x∈iT m ds' o b:=by unfold iT fc at h⊢;rw[K.live];obtain⟨z,d,rfl⟩:=qo.1 h;obtain⟨s,f,c⟩:=zB.1 d;obtain⟨y,e,a⟩:=qo.1 (K.syms (qo.2 ⟨z,c,rfl⟩));exact qo.2 ⟨y,zB.2 ⟨s,f,e⟩,a⟩
theorem NB{live:au}{ds':aF}(K:iG m ds ds'){o b:Int}(k:Nat)(x:Int)(a:x∈(cv m ds o b live).getD k []):x∈(cv m ds' o b live).getD k []:=by
 by_cases c:k<j9 live
 ·rw[jw c]at a⊢;exact K.syms a
 ·rw[qe,qQ A1]at a;cases a
structure EO (m:aE) (live G:au) (ds:aF) (t:Int) (e:Wl.bK) (i:Nat):Prop where
 full:eI m.p (bI e.object i (e.tries.getD i 0)) (iT m ds e.object i)=eR
 spare:xt m.p (bI e.object i (e.tries.getD i 0)) live t.toNat G (cv m ds e.object i live)
theorem EO.keep{live G:au}{ds':aF}{t:Int}{e:Wl.bK}{i:Nat}(h:EO m live G ds t e i)(b:bH m.p=eR)(K:iG m ds ds'):EO m live G ds' t e i:=
 ⟨ua b (λ_ a=>aew K a) h.full,h.spare.more b λk x a=>NB K k x a⟩
theorem It{live G:au}{t most:Int}{M:Nat}{e:Wl.bK}(o:most=(M:Nat))(f:∀s∈G,s∈live)(d:e∈m.aG)(r:Nat):∀(l:List Nat) (ds:aF) (k:Nat),(∀i∈l,i<e.tries.length)->nV m live ds t most->kq m C live ds []->
  (∀i∈l,EO m live G ds t e i)->Roomy m G ds (r+l.length*M)->
  ((dU m live t most e l Pow.new ds k).1=0∨(dU m live t most e l Pow.new ds k).1=12)/\Roomy m G (dU m live t most e l Pow.new ds k).2.2.1 r
 |[],ds,k,_,_,Q,_,R=>⟨.inl k0,R.le k4⟩
 |i::l,ds,k,hl,Z,Q,P,R=>by
  obtain⟨n,u,a3,a4,a5,p,q⟩:=Ka Z Q d (hl i qI);have Pi:=P i qI;obtain⟨g,c⟩:=Wj (k:=r+l.length*M) Z Q o f d (hl i qI) Pi.full Pi.spare (R.le (by rw[zm,zO];omega));unfold dU;dsimp only;obtain⟨b,v⟩:∃b,b=bY m live t most Pow.new ds e i:=⟨_,rfl⟩
  rw[<-v]at n u a3 a4 a5 p q g c⊢;by_cases h0:b.1=0
  rotate_left
  ·rw[j1 h0];exact⟨g,c.le k4⟩
  rw[j3 λh=>h h0,n];exact It o f d r l b.2.2.1 (k+b.2.2.2) (λj a=>hl j (qC _ a)) (Z.next a3) a5 (λj a=>(P j (qC _ a)).keep Q.sto.ny a3) c
theorem NC{live G:au}{t most:Int}{M:Nat}(o:most=(M:Nat))(f:∀s∈G,s∈live)(r:Nat):∀(l:List Wl.bK) (ds:aF) (k:Nat),(∀e∈l,e∈m.aG)->nV m live ds t most->kq m C live ds []->
  (∀e∈l,∀i<e.tries.length,EO m live G ds t e i)->Roomy m G ds (r+(l.map λe=>e.tries.length*M).sum)->
  ((ga m live t most l Pow.new ds k).1=0∨(ga m live t most l Pow.new ds k).1=12)/\Roomy m G (ga m live t most l Pow.new ds k).2.2.1 r
 |[],ds,k,_,_,Q,_,R=>⟨.inl k0,R.le k4⟩
 |e::l,ds,k,hl,Z,Q,P,R=>by
  obtain⟨n,u,a3,a5,p,q⟩:=AN (hl e qI) (qx e.tries.length) ds k (λi a=>qD.1 a) Z Q;obtain⟨g,d⟩:=It o f (hl e qI) (r+(l.map λe=>e.tries.length*M).sum) (qx e.tries.length) ds k (λi a=>qD.1 a) Z Q (λi a=>P e qI i (qD.1 a)) (R.le (by rw[List.map_cons,List.sum_cons,zt];omega));unfold ga;dsimp only;obtain⟨b,v⟩:∃b,b=dU m live t most e (qx e.tries.length) Pow.new ds k:=⟨_,rfl⟩
  rw[<-v]at n u a3 a5 p q g d⊢;by_cases h0:b.1=0
  rotate_left
  ·rw[j1 h0];exact⟨g,d.le k4⟩
  rw[j3 λh=>h h0,n];exact NC o f r l b.2.2.1 b.2.2.2 (λj c=>hl j (qC _ c)) (Z.next a3) a5 (λj c i a=>(P j (qC _ c) i a).keep Q.sto.ny a3) d
theorem xu:∀{live:au} {ds:aF},ee m C ds->(∀k∈live,∃d,aW ds k=dB d/\d.lost=eS)->∀s a,aW (cO m live Pow.new ds).2.2 s=dB a->∃d,aW ds s=dB d/\(∀r∈cS m a.l,r∈cS m d.l)/\a.room=d.room
 |[],ds,_,_,s,a,h=>⟨a,h,λ_ h=>h,k0⟩
 |k::live,ds,S,hlv,s,a,h=>by
  obtain⟨d,n,u⟩:=hlv k qI;have v:=S.cells k d n;have f:=λj t=>hlv j (qC _ t);unfold cO at h;rw[n]at h;dsimp only at h;by_cases e:d.l=bM m d.l
  ·rw[j1 e]at h;exact xu S f s a h
  ·rw[j3 e]at h;by_cases A:j9 (bM m d.l)<=d.room
   ·rw[AC kg (rv m d.l) u A]at h;dsimp only at h;rw[j1 rfl]at h;have g:=λs=>gH (d:={d with l:=bM m d.l,wait:=0,laid:=[],has:=eS}) S.len n s;obtain⟨x,i,w,h3⟩:=xu (S.aes n (d:={d with l:=bM m d.l,wait:=0,laid:=[],has:=eS}) (IZ S.may v)) (λj t=>by
     obtain⟨x,z,q⟩:=f j t;by_cases p:j=k
     ·exact⟨{d with l:=bM m d.l,wait:=0,laid:=[],has:=eS},by rw[g,j1 p],u⟩
     ·exact⟨x,by rw[g,j3 p];exact z,q⟩) s a h
    rw[g]at i;split at i
    ·rename_i B;injection i with i
     subst i B;exact⟨d,n,λr h=>(ud S.may v).1 (w r h),h3⟩
    ·exact⟨x,i,w,h3⟩
   ·have y:d.rewrite Pow.new (bM m d.l)=(7,Pow.new,d):=by unfold bp.rewrite;have o:(bM m d.l).all (λb=>decide (j9 b=64))=eR:=qU.2 λc h=>j6 (rv m d.l c h);rw[o,j3 k6,j3 (by rw[u];decide),j1 k4]
    rw[y]at h;dsimp only at h;rw[j3 (show¬(7:Int)=0 by decide),PT n]at h;exact⟨a,h,λ_ h=>h,k0⟩
theorem Ze{live G:au}{t most:Int}{M:Nat}(Z:nV m live ds t most)(S:ee m C ds)(J:most=(M:Nat))(B:∀s∈G,s∈live)(n:∀k d,aW ds k=dB d->d.l.length<=d.room/\d.room<=512)(x:∀k d,aW ds k=dB d->d.wait=0)
  (f:∀k∈live,∀d,aW ds k=dB d->(bs m).length+(cS m d.l).length<=d.room) (P:∀e∈m.aG,∀i<e.tries.length,EO m live G ds t e i) (R:Roomy m G ds (m.aG.map λe=>e.tries.length*M).sum):
  (eK m 0 Pow.new ds t most).2.1=0∨(eK m 0 Pow.new ds t most).2.1=12:=by
 have j:∀k∈live,∃d,aW ds k=dB d/\d.lost=eS:=λk f=>(mw (by rw[<-Z.lv];exact f)).2;have p:live.Nodup:=by rw[Z.lv];exact lP (kG S.may)
 obtain⟨A,H,a3,a4,a5,y,z⟩:=rF p S j λk d a=>⟨(n k d a).1,x k d a⟩
 have U:=Z.tt;have D:=Z.c;have K:=Z.mo;have L:eK m 0 Pow.new ds t most=(let c:=cO m live Pow.new ds;if c.1≠0 then(0,c.1,c.2.1,c.2.2)else(let q:=ga m live t most m.aG c.2.1 c.2.2 0;(q.2.2.2,q.1,q.2.1,q.2.2.1))):=by unfold eK;rw[<-Z.lv,j3 k6,j3 k4,j3 D]
 have g:=xu (live:=live) S j;rw[L];dsimp only;obtain⟨c,w⟩:∃c,c=cO m live Pow.new ds:=⟨_,rfl⟩
 rw[<-w]at A H a3 a4 a5 y z g⊢;have h0:c.1=0:=y λk d a r=>by rw[oQ];exact f k r d a
 have b:∀k d,aW c.2.2 k=dB d->d.l.length<=d.room/\d.room<=512:=λk d a=>by
  obtain⟨o,v,_,h3⟩:=g k d a;exact⟨(a5 k d a).1,by rw[h3];exact(n k o v).2⟩
 rw[j3 λh=>h h0,A];have Q:kq m C live c.2.2 []:=⟨a3,λk f=>by
  obtain⟨d,a,F⟩:=j k f;obtain⟨E,e,N⟩:=a4.at_ k d a;exact⟨E,e,by rw[N.lost];exact F⟩,λk d a=>.inl (a5 k d a).2,λk f d a=>z h0 k f d a,b⟩
 exact(NC J B 0 m.aG c.2.2 0 (λe u=>u) (Z.next a4) Q (λe u i O=>(P e u i O).keep S.ny a4) λs T d a=>by
  obtain⟨o,v,I,h3⟩:=g s d a;have:=R s T o v;have:=DE I;omega).1
end Go.Qw
namespace Go.Qw
open Go Go.Vc Go.Proofs Wl
variable {m:aE} {C:Int->aY} {ds:aF}
theorem ach{live:au}{s r:Int}(d:s∈live)(b:r∈live)(e:dG live s=dG live r):s=r:=by
 obtain⟨k,i,h,h3⟩:=BU d;obtain⟨j,f,g,c⟩:=BU b;have a:k=j:=k4
 subst a;rw[<-h3,c]
theorem aci{p:Pm}{seed:Int}{live:au}{t:Nat}(b:live.Nodup)(r:t<j9 live)(W:bz):xt p seed live t live W:=λg l=>.inl<|Classical.byContradiction λh=>by
 have f:∀s∈live,dG live s∈g:=λs i=>Classical.byContradiction λa=>h ⟨s,i,a⟩;obtain⟨s,i,rfl⟩:=qo.1 l;have o:=(xT i).1;have a:(live.map (dG live)).Nodup:=wF.2 (List.Pairwise.imp_of_mem (λk q c e=>c (ach k q e)) b);have d:=nz (m:=ints s) a λx n=>by
  obtain⟨y,j,rfl⟩:=qo.1 n;exact f y j
 rw[qw]at d;unfold ints at d;rw[qw]at d;omega
end Go.Qw
namespace Go.Qw
open Go Go.Vc Go.Proofs Wl
theorem acj{m n:aE}{ds:aF}{t:au}{b:aY}{k:Int}{d:bp}{c:Nat}(f:bV m=eR)(a:bV n=eR)(e:j9 (splitB m.p b)<=c):
  (kV m ds t b n k d).l.length<=18+j9 d.l+c*(m.p.1+m.extra).toNat/\(kV m ds t b n k d).room=d.room:=by
 unfold kV;split
 ·rw[Nc,(tW _ _).2,<-KX];have j:=abV (m:=m) (t:=t) (b:=b) (live:=be ds m.drives) (k:=k) (nb:=j9 (splitB m.p b));have i:=zo (m.p.1+m.extra).toNat e;have h3:=HV f;have g:=HV a;have h:=nt m d.l;rw[qy,qy];unfold cE;split
  ·exact⟨k4,k0⟩
  ·refine⟨?_,k0⟩;show(bM m d.l).length+_<=_;rw[oQ];omega
 ·exact⟨k4,k0⟩
structure One (m0:aE) (name:ByteArray) (b:aY) (R c:Nat) (m:aE) (C:Int->aY) (ds:aF) (t:au):Prop where
 aG:m.aG=[⟨name,m0.next,j9 b,t⟩]
 tl:j9 t=j9 (splitB m0.p b)
 p:m.p=m0.p
 extra:m.extra=m0.extra
 drives:m.drives=m0.drives
 sto:ee m C ds
 full:Full m C ds
 row:∀k d,aW ds k=dB d->d.wait=0/\d.room=R/\d.l.length<=27+c*(m0.p.1+m0.extra).toNat
 data:C m0.next=b
theorem agD{a:aE}{C:Int->aY}{D:aF}{R c:Nat}(S:ee a C D)(F:Full a C D)(j:a.aG=[])(i:∀k d,aW D k=dB d->d.wait=0/\d.room=R/\d.l.length<=9)(name:ByteArray)(b:aY)(r:j9 (splitB a.p b)<=c):
  (∃e,e≠0/\gW a 0 Pow.new D name b=(e,a,Pow.new,D))∨∃t m ds,gW a 0 Pow.new D name b=(0,m,Pow.new,ds)/\One a name b R c m (ku C a.next b) ds t:=by
 rcases Xb (offs:=0) (w:=Pow.new) (name:=name) (b:=b) kg S with⟨h,_⟩|⟨hr,t,ds',ht,h,S',hat⟩
 ·exact .inl h
 ·refine .inr ⟨t,_,ds',h,?_,iZ ht,k0,k0,k0,S',F.put S hr ht S' hat,λk d f=>?_,by unfold ku;rw[j1 rfl]⟩
  ·show(a.aG++[(⟨name,a.next,j9 b,t⟩:Wl.bK)]).mergeSort sO=_;rw[j,List.nil_append,List.mergeSort_singleton]
  ·rw[hat]at f;cases h0:aW D k with
   |none=>rw[h0]at f;cases f
   |some d0=>
    rw[h0]at f;injection f with f
    obtain⟨g,o,a3⟩:=i k d0 h0;obtain⟨s,q⟩:=acj (m:=a) (n:=dw a ⟨name,a.next,j9 b,t⟩) (ds:=D) (t:=t) (b:=b) (k:=k) (d:=d0) S.may S'.may r;rw[<-f];refine⟨?_,q.trans o,k4⟩;unfold kV;split
    ·exact agA (aet g)
    ·exact g
theorem One.can{g:aE}{name:ByteArray}{b:aY}{R c:Nat}{m:aE}{C:Int->aY}{ds:aF}{t:au}(O:One g name b R c m C ds t)(a:m.drives≠[]){e:Wl.bK}(f:e∈m.aG){i:Nat}(d:i<e.tries.length):eI m.p (bI e.object i (e.tries.getD i 0)) (iT m ds e.object i)=eR:=by have h:=O.full.can O.sto a f;unfold aen at h;exact qU.1 (qz _ _|>.mp h).2 i (qD.2 d)
section
variable {B:aB} {h0 h:Heap} {As:List HP} {a pw:Addr} {offs:Int} {da:List aQ} {w:Pow} {ds:aF} {m:aE}
end
section
variable {B:aB} {h0 h:Heap} {As:List HP} {a pw:Addr} {offs:Int} {da:List aQ} {w:Pow} {ds:aF} {m:aE}
end
section
variable {m:aE} {C:Int->aY} {ds:aF} {offs:Int} {w:Pow}
def Lh(m:aE)(ds:aF):Prop:=∀k d,aW ds k=dB d->∀b e,aW ds b=dB e->∀c∈d.l,∀f∈e.l,∀r a,dJ c=dB r->dJ f=dB a->dH m r=eR->dH m a=eR->Ny r=Ny a->k=b
theorem Zf{n:aE}(f:∀k d,aW ds k=dB d->∀c∈d.l,c∈bs n):Lh m ds:=λk d e _ _ _ c a _ _ r _ b _ _ _ _=>by
 rw[iX (f k d e c a)]at b;cases b
theorem ack{o:Int}{tries:au}{b:cC}{live:au}{k:Int}{n:Nat}{r:cX}(h:r∈gN m o tries b live k n):
  ∃(i id:Nat),r=ke m o i (bI o i (tries.getD i 0)) (b.getD i []) id/\i<n/\id<(m.p.1+m.extra).toNat/\dK (cK o i live) id=k:=by
 unfold gN at h;obtain⟨i,e,a⟩:=zB.1 h;unfold pB at a;obtain⟨id,d,rfl⟩:=qo.1 a;obtain⟨h3,c⟩:=qH.1 d;exact⟨i,id,k0,qD.1 e,qD.1 h3,j8 c⟩
theorem Qq(S:ee m C ds){name:ByteArray}{b:aY}{t:au}(G:dE m (gT w offs) ds name b.length=0)(F:cR m.p m.next (splitB m.p b).length=dB t)
  {k:Int} {f:bp} (A:aW ds k=dB f) {c:aY} (g:c∈(kV m ds t b (dw m ⟨name,m.next,b.length,t⟩) k f).l) {r:cX} (a:dJ c=dB r) (v:dH (dw m ⟨name,m.next,b.length,t⟩) r=eR):
  (c∈f.l/\dH m r=eR/\r.object<m.next)∨∃(i id:Nat),r.object=m.next/\r.block=i/\r.id=id/\dK (cK m.next i (be ds m.drives)) id=k:=by
 obtain⟨J,L,z3,z4,z5⟩:=kf G;have s:m.next<=16777215:=by have:¬16777215<m.next:=λh=>z5 (.inr (.inl h));omega
 have h8:=xD S.ny λh=>z4 (.inl h);have e:c∈f.l->c∈f.l/\dH m r=eR/\r.object<m.next:=λj=>by
  have u:=(S.cells k f A c j).old r a;obtain⟨B,D,x,o,c3,H⟩:=gB.1 v;rcases sC.1 o with o|rfl
  ·exact⟨j,gB.2 ⟨B,D,x,o,c3,H⟩,u⟩
  ·have:m.next=r.object:=c3;omega
 by_cases z:k∈be ds m.drives
 ·obtain⟨_,_,N,E⟩:=oA (m:=m) (t:=t) (b:=b) (n:=dw m ⟨name,m.next,b.length,t⟩) (d:=f) z;rw[E]at g;rcases qA.1 g with h|h
  ·rcases Uz h with h|h
   ·exact .inl (e h)
   ·rw[iX h]at a;cases a
  ·rcases qA.1 h with h|h
   ·obtain⟨K,q,rfl⟩:=qo.1 h;obtain⟨i,id,rfl,I,hid,y⟩:=ack q;rw[kE (IW S.may s h8 F I hid) (gx _ _ _)]at a;injection a with a
    subst a;exact .inr ⟨i,id,k0,k0,k0,y⟩
   ·rw[iX h]at a;cases a
 ·unfold kV at g;rw[j3 z]at g;exact .inl (e g)
theorem Lh.put(O:Lh m ds)(S:ee m C ds){name:ByteArray}{b:aY}{t:au}{ds':aF}(o:dE m (gT w offs) ds name b.length=0)(u:cR m.p m.next (splitB m.p b).length=dB t)
  (a:∀k,aW ds' k=(aW ds k).map (kV m ds t b (dw m ⟨name,m.next,j9 b,t⟩) k)):Lh (dw m ⟨name,m.next,j9 b,t⟩) ds':=by
 intro k d B z F f c x D j r y n l h3 A s;obtain⟨v,q,rfl⟩:=EJ a B;obtain⟨g,e,rfl⟩:=EJ a f;unfold Ny at s;injection s with e1 e2
 injection e2 with e2 e3
 rcases Qq S o u q x n h3 with⟨a1,a2,a3⟩|⟨i,id,b1,b2,b3,b4⟩<;>rcases Qq S o u e j l A with⟨a1',a2',a3'⟩|⟨i',id',b1',b2',b3',b4'⟩
 ·exact O k v q z g e c a1 D a1' r y n l a2 a2' (by unfold Ny;rw[e1,e2,e3])
 ·omega
 ·omega
 ·have E:i=i':=k4
  have h:id=id':=k4
  subst E h;rw[<-b4,<-b4']
end
variable {m:aE} {C:Int->aY} {ds:aF}
theorem set_perm{y:Int}:∀{W:bz} {k:Nat},k<j9 W->(W.set k (W.getD k []++[y])).flatten.Perm (y::W.flatten)
 |[],k,h=>absurd h (Nat.not_lt_zero _)
 |l::W,0,_=>by
  show((l++[y])++W.flatten).Perm (y::(l++W.flatten));rw[qt];exact List.perm_middle
 |l::W,k+1,h=>by
  show(l++(W.set k (W.getD k []++[y])).flatten).Perm (y::(l++W.flatten));exact((set_perm (Nat.lt_of_succ_lt_succ h)).append_left l).trans List.perm_middle
theorem Jc{W:bz}{y:Int}:y∈W.flatten↔∃k,y∈W.getD k []:=by
 constructor
 ·intro h;obtain⟨l,c,b⟩:=wY.1 h;obtain⟨k,a,rfl⟩:=yQ.1 c;exact⟨k,by rw[dT [] a];exact b⟩
 ·rintro⟨k,h⟩;by_cases a:k<j9 W
  ·rw[dT [] a]at h;exact wY.2 ⟨_,qh a,h⟩
  ·rw[qe,qQ k4]at h;cases h
theorem acl{W V:bz}(p:j9 V=j9 W)(g:W.flatten.Nodup)(e:∀l∈V,l.Nodup)(b:∀i y,y∈V.getD i []↔y∈W.getD i []):V.flatten.Nodup/\∀y,y∈V.flatten↔y∈W.flatten:=by refine⟨vG.2 ⟨e,zd.2 λi j o m a x n y f=>?_⟩,λy=>by rw[Jc,Jc];exact exists_congr λk=>b k y⟩;have h:=zd.1 (vG.1 g).2 i j k4 k4 a;have d:=(b i x).1 (by rw[dT [] o];exact n);have c:=(b j y).1 (by rw[dT [] m];exact f);rw[dT []]at d c;exact h x d y c
structure mA (W:bz) (n:Nat):Prop where
 nd:W.flatten.Nodup
 mem:∀y,y∈W.flatten↔∃j:Nat,j<n/\y=j
theorem mA.len{W:bz}{n:Nat}(U:mA W n):j9 W.flatten=n:=by
 have c:((qx n).map λj:Nat=>(j:Int)).Nodup:=wF.2 (ya.imp λh e=>k4);have f:=nz U.nd (m:=(qx n).map λj:Nat=>(j:Int)) λy a=>by
  obtain⟨j,b,rfl⟩:=(U.mem y).1 a;exact qo.2 ⟨j,qD.2 b,k0⟩
 have d:=nz c (m:=W.flatten) λy a=>by
  obtain⟨j,b,rfl⟩:=qo.1 a;exact(U.mem _).2 ⟨j,qD.1 b,k0⟩
 rw[qw,zt]at f d;omega
theorem Qr{W:bz}{y:Int}:kt W y=eR↔y∈W.flatten:=by unfold kt;rw[wc,wY];exact exists_congr λl=>and_congr_right λ_=>decide_eq_true_iff
theorem mA.fresh{W:bz}{n:Nat}(U:mA W n):cP W=n:=by
 refine Ni ?_ λj a=>Qr.2 ((U.mem _).2 ⟨j,a,k0⟩);cases h:kt W (n:Int)with
 |false=>rfl
 |true=>
  obtain⟨j,a,e⟩:=(U.mem _).1 (Qr.1 h);omega
theorem mA.same{W V:bz}{n:Nat}(U:mA W n)(c:j9 V=j9 W)(a:∀l∈V,l.Nodup)(e:∀i y,y∈V.getD i []↔y∈W.getD i []):mA V n:=by obtain⟨d,b⟩:=acl c U.nd a e;exact⟨d,λy=>by rw[b];exact U.mem y⟩
theorem mA.nw{x:gY}{n k:Nat}{s:Int}(U:mA x.W n)(c:k<j9 x.W):mA (x.nw n k s).W (n+1):=by
 have b:(x.nw n k s).W.flatten.Perm ((n:Int)::x.W.flatten):=set_perm (k:=((k:Nat):Int).toNat) c;refine⟨b.nodup_iff.2 (wP.2 ⟨λh=>?_,U.nd⟩),λy=>?_⟩
 ·obtain⟨j,a,e⟩:=(U.mem _).1 h;omega
 ·rw[b.mem_iff,qV,U.mem];constructor
  ·rintro(rfl|⟨j,a,rfl⟩)
   ·exact⟨n,k4,k0⟩
   ·exact⟨j,k4,k0⟩
  ·rintro⟨j,a,rfl⟩;by_cases h:j=n
   ·exact .inl (by rw[h])
   ·exact .inr ⟨j,k4,k0⟩
theorem Zg(m:aE)(ds:aF)(o b k:Int):((dM m ds o b k).map qM).Nodup:=by
 unfold dM;cases aW ds k with
 |none=>exact List.Pairwise.nil
 |some d=>
  refine wF.2 (wF.2 (List.Pairwise.imp_of_mem (λ{r r'} hr hr' h e=>?_) ((JY m d.l).filter _)));have c:=(qH.1 hr).2;have a:=(qH.1 hr').2;simp only[qz,decide_eq_true_eq]at c a;have:nB r r'=eR:=(kU r r').2 ⟨by rw[c.1,a.1],by rw[c.2,a.2],e⟩;rw[h]at this;cases this
theorem CD(m:aE)(ds:aF)(o b:Int)(live:au):∀l∈cv m ds o b live,l.Nodup:=λl a=>by
 obtain⟨k,_,rfl⟩:=BR a;exact Zg m ds o b k
theorem OQ{o b k:Int}{d:bp}{r:cX}(a:aW ds k=dB d)(c:r∈cS m d.l)(e:r.object=o)(f:r.block=b):r.id∈(dM m ds o b k).map qM:=by refine qo.2 ⟨(r.id,r.data),?_,k0⟩;unfold dM;rw[a];exact qo.2 ⟨r,qH.2 ⟨c,by rw[e,f];simp⟩,k0⟩
theorem aex(b:bV m=eR){d:bp}{n:Int}(a:∀c∈d.l,dY m C c){r:cX}(h:r∈cS m (cE m d n).l):r∈cS m d.l:=by
 unfold cE at h;split at h
 ·exact h
 ·exact(ud b a).1 h
def InD(m:aE)(live:au)(ds:aF)(x:gY):Prop:=∀k (a:k<j9 live),∀id∈(dM m ds x.o x.b live[k]).map qM,id∈x.W.getD k []
theorem Zh{live set:au}{e:Wl.bK}{i n:Nat}{x:gY}(ah:live.length<=9)(Q:kq m C live ds x.got)(X:Io m C e i x)(F:kh m live x)(Y:live.Nodup)(I:InD m live ds x)(U:mA x.W n)(G:(dc m live set Pow.new ds x).1=0):
  InD m live (dc m live set Pow.new ds x).2.2.1 (dc m live set Pow.new ds x).2.2.2/\mA (dc m live set Pow.new ds x).2.2.2.W (n+1)/\(dc m live set Pow.new ds x).2.2.2.got.length=x.got.length+1/\
  ∀k y,y∈(dc m live set Pow.new ds x).2.2.2.W.getD k []->y≠n->y∈x.W.getD k []:=by
 have K:=U.fresh;have v:cP x.W<=65535:=by
  have h1:=Iq (W:=x.W);have h2:=Lg (W:=x.W) (c:=4160) λl hl=>by have:=F.rl l hl;have:=F.gl;omega
  have h3:=F.wl;have h4:x.W.length*4160<=9*4160:=zo _ k4;omega
 have A:=Q.sto.ub X.he X.hi v;have ad:=Ip Q.sto X.he X.hi v;obtain⟨D,t⟩:∃D,D=ke m e.object i (bI e.object i (e.tries.getD i 0)) (fo m C e.object i) (cP x.W):=⟨_,rfl⟩
 rw[<-t]at A ad;have R:=kE A (by rw[t];exact gx _ _ _);have Z:(cL D).length=64:=xP A;have eP:dc m live set Pow.new ds x=(let r:=fJ m live set (cK x.o x.b live) (cL D) (cP x.W) Pow.new ds (qx (cK x.o x.b live).length);(r.1.1,r.1.2.1,r.1.2.2,if r.1.1=0 then x.nw (cP x.W) r.2.1 r.2.2 else x)):=by rw[t,<-X.Ia];rfl
 rw[eP]at G⊢;dsimp only at G⊢;obtain⟨o,ho⟩:∃o,o=cK x.o x.b live:=⟨_,rfl⟩
 rw[<-ho]at G⊢;rcases sV (m:=m) (ds:=ds) (live:=live) (set:=set) (order:=o) (c:=cL D) (id:=cP x.W) (w:=Pow.new) (qx o.length)with h|⟨j,M,d,hd,hf,h⟩
 ·rw[h]at G;exact absurd G (show¬(7:Int)=0 by decide)
 obtain⟨s,hs⟩:∃s,s=dK o ((cP x.W:Int)+j):=⟨_,rfl⟩
 rw[<-hs]at hd h;have M:=qD.1 M;have T:s∈live:=by rw[hs];exact xp (by rw[<-ho];exact IX (by intro h;rw[h]at M;simp at M))
 obtain⟨u,P,B,L⟩:=BU T;have hc:=Q.sto.cells s d hd;have S:=Q.sto.may;rw[h,Kb hf Z];dsimp only;rw[j1 k0,K,P];have E:u<x.W.length:=by rw[F.wl];exact B
 refine⟨λk O id hid=>?_,U.nw E,by show(x.got++[s]).length=_;simp,λk y g V=>?_⟩
 ·have hid:id∈(dM m (bT ds s {cE m d 1 with l:=(cE m d 1).l++[cL D],wait:=(cE m d 1).wait+1,laid:=[],has:=eS}) x.o x.b live[k]).map qM:=hid;by_cases f:live[k]=s
  ·have e1:k=u:=by
    have J:=zd.1 Y;rcases Nat.lt_trichotomy k u with h|h|h
    ·exact absurd (f.trans L.symm) (J k u O B h)
    ·exact h
    ·exact absurd (L.trans f.symm) (J u k B O h)
   subst e1;show id∈(x.W.set ((k:Nat):Int).toNat (x.W.getD ((k:Nat):Int).toNat []++[(n:Int)])).getD k [];rw[qn,qe,zq E];show id∈x.W.getD k []++[(n:Int)]
   obtain⟨z,hz,rfl⟩:=qo.1 hid;obtain⟨d1,r,p,hr,h1,h2,rfl⟩:=kW hz;rw[f,gH Q.sto.len hd,j1 rfl]at p;injection p with p
   rw[<-p]at hr;obtain⟨a,b,q⟩:=gu hr;rcases qA.1 a with a|a
   ·refine zn _ (I k O r.id ?_);rw[f];exact OQ hd (aex S hc (lm S (Ja S hc (N:=1)) a b q)) h1 h2
   ·rw[qB.1 a,R]at b;injection b with b
    refine zE _ ?_;rw[<-b,t,<-K];exact qB.2 k0
  ·refine Qn k id (I k O id ?_);rw[UA (ds':=bT ds s {cE m d 1 with l:=(cE m d 1).l++[cL D],wait:=(cE m d 1).wait+1,laid:=[],has:=eS}) (ds:=ds) (by rw[gH Q.sto.len hd,j3 f])]at hid;exact hid
 ·have g:y∈(x.W.set ((u:Nat):Int).toNat (x.W.getD ((u:Nat):Int).toNat []++[(n:Int)])).getD k []:=g;rw[qn]at g;by_cases H:u=k
  ·subst H;rw[qe,zq E]at g;have g:y∈x.W.getD u []++[(n:Int)]:=g;rcases qA.1 g with h|h
   ·exact h
   ·exact absurd (qB.1 h) V
  ·rw[qe,zN H,<-qe]at g;exact g
theorem Wk{live:au}{t:Int}{e:Wl.bK}{i:Nat}(z:0<=t/\t<=j9 live)(d:j9 live<=9)(H:¬gw live.length t>4096)(l:live.Nodup)(n0:Nat):
  ∀(f:Nat) (ds:aF) (x:gY),kq m C live ds x.got->Io m C e i x->kh m live x->JZ m live ds x->InD m live ds x->mA x.W (n0+j9 x.got)->65<=f+j9 x.got->(cj m live t 64 f Pow.new ds x).1≠7->
  InD m live (cj m live t 64 f Pow.new ds x).2.2.1 (cj m live t 64 f Pow.new ds x).2.2.2/\mA (cj m live t 64 f Pow.new ds x).2.2.2.W (n0+(cj m live t 64 f Pow.new ds x).2.2.2.got.length)/\
  ((cj m live t 64 f Pow.new ds x).1=12->(cj m live t 64 f Pow.new ds x).2.2.2.got.length=64)/\
  ((cj m live t 64 f Pow.new ds x).1=0->(cj m live t 64 f Pow.new ds x).2.2.2=x∨∃b:bz,j9 b=j9 live/\jJ m.p x.seed b t.toNat≠eH/\∀k y,y∈(cj m live t 64 f Pow.new ds x).2.2.2.W.getD k []->y+1≠((n0+(cj m live t 64 f Pow.new ds x).2.2.2.got.length:Nat):Int)->y∈b.getD k []):=by
 intro f
 induction f with
 |zero=>
  intro ds x Q X F O I U D a;have:=F.gl;omega
 |succ f ih=>
  intro ds x Q X F O I U D a;have n:=BV Q.sto.ny (seed:=x.seed) (W:=x.W) (t:=t) ⟨z.1,by rw[F.wl];exact z.2⟩ qb (by rw[F.wl];exact H);unfold cj at a⊢;dsimp only at a⊢;rw[n]at a⊢;cases hwk:jJ m.p x.seed x.W t.toNat with
  |none=>
   dsimp only;rw[j3 λh=>h k0,j1 rfl];exact⟨I,U,λh=>absurd h (show¬(0:Int)=12 by decide),λ_=>.inl k0⟩
  |some g=>
   rw[hwk]at a;dsimp only at a⊢;rw[j3 λh=>h rfl,j3 k6]at a⊢;by_cases r:(j9 x.got:Int)>=64
   ·rw[j1 r];exact⟨I,U,λ_=>by have:=F.gl;show x.got.length=64;omega,λh=>absurd h (show¬(12:Int)=0 by decide)⟩
   ·rw[j3 r]at a⊢;obtain⟨s,u,a3,a4,a5,o⟩:=Ir (set:=g) d Q X F O;obtain⟨A,J,_⟩:=AI (set:=g) (w:=Pow.new) (ds:=ds) F k4;have E:=Zh (set:=g) d Q X F l I U;obtain⟨q,P⟩:∃q,q=dc m live g Pow.new ds x:=⟨_,rfl⟩
    rw[<-P]at s u a3 a4 a5 o A J E a⊢;by_cases h0:q.1≠0
    ·rw[j1 h0]at a;exact absurd (u.resolve_left h0) a
    ·rw[j3 h0,s]at a⊢;obtain⟨M,S,v,G⟩:=E (Decidable.not_not.1 h0);have L:q.2.2.2.seed=x.seed:=by rw[a5.seed,X.seed]
     obtain⟨B,N,K,R⟩:=ih q.2.2.1 q.2.2.2 a4 a5 A o M (by rw[v];exact S) k4 a;refine⟨B,N,K,λh=>.inr ?_⟩;rcases R h with hx|⟨b,w1,w2,w3⟩
     ·refine⟨x.W,F.wl,(by rw[hwk];intro h;cases h),λk y j c=>?_⟩;rw[hx]at j c;exact G k y j λj=>c (by rw[v,j];omega)
     ·exact⟨b,w1,by rw[L]at w2;exact w2,w3⟩
end Go.Qw
namespace Go.Qw
open Go Go.Vc Go.Proofs Wl
variable {m:aE} {C:Int->aY} {ds:aF}
theorem One.more{a:aE}{D:aF}(c:ee a C D)(f:Qk a D)(g:Lh a D){name:ByteArray}{b:aY}(d:gW a 0 Pow.new D name b=(0,m,Pow.new,ds)):Qk m ds/\Lh m ds:=by
 rcases Xb (offs:=0) (w:=Pow.new) (name:=name) (b:=b) kg c with⟨⟨e,he,h⟩,_⟩|⟨hr,t,ds',ht,h,S',hat⟩
 ·rw[d]at h;injection h with h
  exact absurd h.symm he
 ·rw[d]at h;injection h with _ h
  injection h with h1 h
  injection h with _ h2
  subst h1 h2;exact⟨f.put c hr ht hat,g.put c hr ht hat⟩
theorem acm(S:ee m C ds)(F:Full m C ds)(L:Qk m ds)(O:Lh m ds){e:Wl.bK}(H:e∈m.aG)(N:0<e.tries.length):mA (cv m ds e.object ((0:Nat):Int) m.drives) (m.p.1+m.extra).toNat:=by
 have A:=kG S.may;have J:=zd.1 A;refine⟨vG.2 ⟨CD _ _ _ _ _,zd.2 λi j K I o x R y f a=>?_⟩,λy=>⟨λh=>?_,?_⟩⟩
 ·rw[<-dT [] K,jw (by rw[<-gv m ds e.object ((0:Nat):Int)];exact K)]at R;rw[<-dT [] I,jw (by rw[<-gv m ds e.object ((0:Nat):Int)];exact I)]at f;obtain⟨z,M,rfl⟩:=qo.1 R;obtain⟨z',B,rfl⟩:=qo.1 f;obtain⟨d,r,b,c,Q,U,rfl⟩:=kW M;obtain⟨W,T,n,G,E,t,rfl⟩:=kW B;obtain⟨u,w,c3⟩:=gu c;obtain⟨v,P,D⟩:=gu G;have a:r.id=T.id:=a;exact J i j _ _ o (O _ d b _ W n _ u _ v r T w P c3 D (by unfold Ny;rw[Q,U,E,t,a]))
 ·obtain⟨l,X,f⟩:=wY.1 h;obtain⟨k,_,rfl⟩:=BR X;obtain⟨z,M,rfl⟩:=qo.1 f;obtain⟨d,r,b,c,Q,U,rfl⟩:=kW M;obtain⟨u,w,c3⟩:=gu c;have K:=L k d b _ u r w c3;have I:=((jX r).1 (gB.1 c3).1).2.2.1.1;exact⟨r.id.toNat,k4,by show r.id=_;omega⟩
 ·rintro⟨j,s,rfl⟩;obtain⟨k,Z,d,b,V⟩:=F.all e H 0 N j s;have g:=S.ub H N (S.Uy s);have c:=lm S.may (S.cells k d b) V (kE g (gx _ _ _)) (S.counts H N (S.Uy s));obtain⟨q,Y,rfl⟩:=yQ.1 Z;exact Jc.2 ⟨q,by rw[jw Y];exact OQ b c k0 k0⟩
theorem aib{D:aF}{o b k:Int}(h:(aW D k).map bp.l=(aW ds k).map bp.l):dM m D o b k=dM m ds o b k:=by
 unfold dM;cases h1:aW D k with
 |none=>
  cases h2:aW ds k with
  |none=>rfl
  |some d=>rw[h1,h2]at h;cases h
 |some d'=>
  cases h2:aW ds k with
  |none=>rw[h1,h2]at h;cases h
  |some d=>
   rw[h1,h2]at h;injection h with h
   dsimp only;rw[h]
structure afu (m:aE) (live:au) (t:Int) (e:Wl.bK) (n0:Nat) (ds':aF) (err:Int) (k:Nat):Prop where
 upto:mA (cv m ds' e.object ((0:Nat):Int) live) (n0+k)
 few:k<=64
 most:err=12->k=64
 last:err=0->0<k->∃Wp:bz,Wp.length=live.length/\jJ m.p (bI e.object 0 (e.tries.getD 0 0)) Wp t.toNat≠eH/\∀i y,y∈(cv m ds' e.object ((0:Nat):Int) live).getD i []->y+1≠((n0+k:Nat):Int)->y∈Wp.getD i []
theorem UB{live G:au}{t:Int}{e:Wl.bK}{n0:Nat}(Z:nV m live ds t 64)(Q:kq m C live ds [])(S:∀s∈G,s∈live)(H:e∈m.aG)(K:0<e.tries.length)(P:EO m live G ds t e 0)(R:Roomy m G ds 64)(U:mA (cv m ds e.object ((0:Nat):Int) live) n0):
  afu m live t e n0 (bY m live t 64 Pow.new ds e 0).2.2.1 (bY m live t 64 Pow.new ds e 0).1 (bY m live t 64 Pow.new ds e 0).2.2.2:=by
 have a:∀k d,aW ds k=dB d->d.l.length<=512:=λk d hd=>by have:=Q.rm k d hd;omega
 obtain⟨o1,N,o3⟩:=Is Z Q.sto H K a;have E:=λh=>AK (m:=m) (live:=live) (ds:=ds) (o:=e.object) (tries:=e.tries) (i:=0) a (by rw[<-Z.lv]) h;have h0:=Qp Z Q.sto H K P.full;unfold bY;dsimp only;obtain⟨p,hp⟩:∃p,p=dZ m live ds e.object e.tries 0:=⟨_,rfl⟩
 rw[<-hp]at o1 N o3 E h0⊢;rw[j3 λh=>h h0];obtain⟨X,O,v⟩:=N h0;obtain⟨F,f⟩:=E h0;have u:kq m C live ds p.2.got:=by rw[f];exact Q
 have n:live.Nodup:=by rw[Z.lv];exact lP (kG Q.sto.may)
 have w:0<=t/\t<=live.length:=⟨Z.tt.1,sz⟩
 obtain⟨D,a2,a3,a4,a5,j,A,V,a9⟩:=xr (most:=64) w Z.few Z.c Z.mo.2 65 ds p.2 u X F O;obtain⟨B,_⟩:=NA (most:=64) (M:=64) w Z.few Z.c rfl Z.mo.2 n Z.slots S 0 65 ds p.2 u X F O (by rw[v,X.seed];exact P.spare) (by rw[f,z6];exact R);obtain⟨l1,l2,z,L⟩:=Wk w Z.few Z.c n n0 65 ds p.2 u X F O (λk r id hid=>by rw[v,jw r];rw[X.o,X.b]at hid;exact hid) (by rw[f,v];exact U) k4 B;obtain⟨q,hq⟩:∃q,q=cj m live t 64 65 Pow.new ds p.2:=⟨_,rfl⟩
 rw[<-hq]at D a2 a3 a4 a5 j A V a9 B l1 l2 z L⊢;rw[j3 k4,D];obtain⟨Y,b2,b3,b4,b5⟩:=a4.sync (λs hs=>j.gi s hs) Z.slots;rw[Y,j3 λh=>h rfl];dsimp only;have row:∀i y,y∈(cv m (eN (cI q.2.2.2.got) Pow.new q.2.2.1).2.2 e.object ((0:Nat):Int) live).getD i []↔y∈q.2.2.2.W.getD i []:=λi y=>by
  by_cases r:i<live.length
  ·rw[jw r,aib (b5 _)];have J:=l1 i r y;have I:=A i r y;rw[a5.o,a5.b]at J I;exact⟨J,I⟩
  ·rw[qe,qQ A1,qe,qQ (by rw[j.wl];omega)]
 refine⟨l2.same (by rw[gv,j.wl]) (CD _ _ _ _ _) row,j.gl,z,λh g=>?_⟩;rcases L h with hx|⟨Wp,w1,w2,w3⟩
 ·rw[hx,f]at g;exact absurd g (Nat.lt_irrefl 0)
 ·exact⟨Wp,w1,by rw[X.seed]at w2;exact w2,λi y T x=>w3 i y ((row i y).1 T) x⟩
theorem acn{live:au}{t most:Int}{e:Wl.bK}{w:Pow}(d:e.tries.length=1):ga m live t most [e] w ds 0=((bY m live t most w ds e 0).1,(bY m live t most w ds e 0).2.1,(bY m live t most w ds e 0).2.2.1,(bY m live t most w ds e 0).2.2.2):=by
 have b:qx e.tries.length=[0]:=by rw[d];rfl
 unfold ga;rw[b];have c:dU m live t most e [0] w ds 0=((bY m live t most w ds e 0).1,(bY m live t most w ds e 0).2.1,(bY m live t most w ds e 0).2.2.1,(bY m live t most w ds e 0).2.2.2):=by
  unfold dU;dsimp only;by_cases h:(bY m live t most w ds e 0).1=0
  ·rw[j3 λa=>a h,z6,h];rfl
  ·rw[j1 h,z6]
 rw[c];dsimp only;by_cases h:(bY m live t most w ds e 0).1=0
 ·rw[j3 λa=>a h,h];rfl
 ·rw[j1 h]
theorem Wm{live:au}{t:Int}{e:Wl.bK}{n0:Nat}(Z:nV m live ds t 64)(S:ee m C ds)(n:∀k d,aW ds k=dB d->d.l.length<=d.room/\d.room<=512)(A:∀k d,aW ds k=dB d->d.wait=0)
  (f:∀k∈live,∀d,aW ds k=dB d->(bs m).length+(cS m d.l).length<=d.room) (G:m.aG=[e]) (o:e.tries.length=1) (P:EO m live live ds t e 0) (R:Roomy m live ds 64) (U:mA (cv m ds e.object ((0:Nat):Int) live) n0):
  afu m live t e n0 (eK m 0 Pow.new ds t 64).2.2.2 (eK m 0 Pow.new ds t 64).2.1 (eK m 0 Pow.new ds t 64).1:=by
 have j:∀k∈live,∃d,aW ds k=dB d/\d.lost=eS:=λk f=>(mw (by rw[<-Z.lv];exact f)).2;have v:live.Nodup:=by rw[Z.lv];exact lP (kG S.may)
 obtain⟨F,N,a3,a4,a5,D,E⟩:=rF v S j λk d a=>⟨(n k d a).1,A k d a⟩
 have H:=Z.tt;have K:=Z.c;have T:=Z.mo;have V:eK m 0 Pow.new ds t 64=(let c:=cO m live Pow.new ds;if c.1≠0 then(0,c.1,c.2.1,c.2.2)else(let q:=ga m live t 64 m.aG c.2.1 c.2.2 0;(q.2.2.2,q.1,q.2.1,q.2.2.1))):=by unfold eK;rw[<-Z.lv,j3 k6,j3 k4,j3 K]
 have g:=xu (live:=live) S j;rw[V];dsimp only;obtain⟨c,x⟩:∃c,c=cO m live Pow.new ds:=⟨_,rfl⟩
 rw[<-x]at F N a3 a4 a5 D E g⊢;have h0:c.1=0:=D λk d a w=>by rw[oQ];exact f k w d a
 have b:∀k d,aW c.2.2 k=dB d->d.l.length<=d.room/\d.room<=512:=λk d a=>by
  obtain⟨p,o,_,h3⟩:=g k d a;exact⟨(a5 k d a).1,by rw[h3];exact(n k p o).2⟩
 rw[j3 λh=>h h0,F,G];have Q:kq m C live c.2.2 []:=⟨a3,λk f=>by
  obtain⟨d,a,M⟩:=j k f;obtain⟨u,e,W⟩:=a4.at_ k d a;exact⟨u,e,by rw[W.lost];exact M⟩,λk d a=>.inl (a5 k d a).2,λk f d a=>E h0 k f d a,b⟩
 have B:=UB (n0:=n0) (Z.next a4) Q (λs h=>h) (by rw[G];exact qB.2 k0) k4 (P.keep S.ny a4) (λs Y d a=>by
  obtain⟨p,o,O,h3⟩:=g s d a;have:=R s Y p o;have:=DE O;omega) (U.same (by rw[gv,gv]) (CD _ _ _ _ _) λi y=>⟨λh=>?_,NB a4 i y⟩)
 ·rw[acn o];exact B
 ·by_cases f:i<live.length
  ·rw[jw f]at h⊢;obtain⟨z,H,rfl⟩:=qo.1 h;obtain⟨u,r,a,X,L,o2,rfl⟩:=kW H;obtain⟨p,J,I,_⟩:=g _ u a;exact OQ J (I r X) L o2
  ·rw[qe,qQ A1]at h;cases h
end Go.Qw
namespace Go.Qw
open Go Go.Vc Go.Proofs Wl
section
theorem Kc{p:Pm}{E:Int}{c:Nat}{x:Int}{m:aE}{D:aF}(F:Jb p E c x m D):∀k∈be D m.drives,∀d,aW D k=dB d->d.l=bM m d.l:=λk b d a=>by
 rw[F.live]at b;rw[F.at_,j1 b]at a;injection a with a
 subst a;show bs m=bM m (bs m);unfold bM ox;rw[VE];simp
theorem UC(h:Heap):ab xm 14 #[] h λv h'=>v=xg eR/\Sp h h' []:=by
 refine uY ?_;unfold nP;refine(Hu h).mono ?_;rintro _ u ⟨pw,rfl,s⟩;refine⟨_,k0,s.lit ac aq fN k0 [5] k0 (show 1*1<=2^20 by decide) k0 λd t k=>?_⟩;have j:bH (1,1,1)=eR:=k6
 refine(Nf (1,1,1) 0 d [5] (As:=[al 3 d 1 aq [5]]) (St.fw 0 k0 λh' i=>i.1.seq (λ_=>rfl) i.2) k6 (abX j k6 1 5 k6 k6) k0 k).mono ?_;rintro _ h3 ⟨a,da,D,rfl,o,p,f⟩;have F:=aer (c:=1) (x:=5) j k6 k6 k6 o p;obtain⟨m,g⟩:∃m,m=co (1,1,1) 0 (qg 1 5):=⟨_,rfl⟩
 rw[<-g]at F;have f:Sp h h3 [bL a pw da 0 Pow.new D m,al 3 d 1 aq [5]]:=by rw[g];exact f
 have b:j9 (be D m.drives)=1:=by rw[F.live,F.dr];rfl
 have l:nL m 0 Pow.new D 0 0=0:=by unfold nL;rw[j3 k6,b,j3 k6,j3 k6]
 have r:nL m 0 Pow.new D 1 0=1:=by unfold nL;rw[j3 k6,b,j1 k6]
 refine⟨(dB a,0),k0,(JW 0 0 F.may F.aG.1 (Kc F) k6 f).mono ?_⟩;rintro _ w ⟨rfl,q⟩;rw[l];refine⟨(0,0),k0,(JW 1 0 F.may F.aG.1 (Kc F) k6 q).mono ?_⟩;rintro _ y ⟨rfl,n⟩;rw[r];exact⟨(0,1),k0,dD (λ_=>dD (λ_=>dD (λ_=>⟨k0,.zip n.aj⟩) λe=>absurd k0 e) λe=>absurd k0 e) λe=>absurd k0 e⟩
end
theorem Wo(s:ByteArray)(h:Heap)(hs:s.size<=2^31):ab xm 120 #[xf s] h λv h'=>v=xf s/\Sp h h' []:=by
 refine pY s ?_;unfold lJ;refine dD (λe=>?_) λe=>?_
 ·have t:s.size=0:=k4
  have:s=⟨#[]⟩:=by
   cases s with
   |mk d=>
    have:d=#[]:=Array.eq_empty_of_size_eq_zero t;rw[this]
  rw[this];exact⟨k0,Sp.refl h⟩
 ·refine(Sp.refl h).Lw ac aD gM k6 0 k0 k0 s.size s.size k0 k0 (ql _) k4 λD h1 ad H T=>?_;obtain⟨I,y⟩:=Sp.fresh T 0 rfl;have R:=I.len;rw[wK]at R;rcases I.head with⟨p1,p2,p3⟩|⟨b,rest,p1,p2,p3,p4⟩
  ·exfalso;have:=congrArg vd p3;rw[wK,List.length_nil]at this;omega
  have Z:=y b ⟨0,p1⟩;have g:j9 s.data.toList=s.size:=by rw[Array.length_toList];rfl
  obtain⟨M,K⟩:∃M:Array Value,M=((qg s.size (0:UInt8)).flatMap aD++rest).toArray:=⟨_,rfl⟩
  rw[<-K]at p2;have O:s.size<=M.size:=by rw[K];simp[ez (f:=aD) (k:=1) λ_=>rfl]
  obtain⟨Y,F⟩:∃Y:Array Value,Y=(M.toList.take 0++Lib.byteCells s.data.toList++M.toList.drop (0+s.size)).toArray:=⟨_,rfl⟩
  rw[p1];intro w z;have G:w.heap[b]?=dB (.cells M 5 (0,0)):=by rw[z];exact p2
  have o:=Lib.run_copy_row_string (P:=xm) w 34 9 3 5 b 0 D.len D.cap s M 5 m7 m7 G k4 k4;rw[<-F]at o;have E:(w.setRow b Y).heap[b]?=dB (.cells Y 5 (0,0)):=setRow_heap _ _ M _ 5 (0,0) G;refine⟨_,_,o,⟨k0,k0,k0,ql _⟩,(s.size:Int),k0,⟨b,0,eH⟩,⟨p1,k6,k4⟩,?_⟩;intro q a;have i:Y.toList=Lib.byteCells s.data.toList++M.toList.drop s.size:=by rw[F];simp
  have A:j9 (Lib.byteCells s.data.toList)=s.size:=by rw[Lib.byteCells_length,g]
  have W:s.size<=Y.size:=by rw[<-Array.length_toList,i,qy,A];omega
  have l:q.heap[b]?=dB (.cells Y 5 (0,0)):=by rw[a];exact E
  have B:s.data.toList≠[]:=λt=>by rw[t]at g;simp at g;omega
  have u:=Lib.run_unsafeString_row (P:=xm) q 252 3 9 5 m7 m7 b Y.size (by unfold World.shape?;rw[l]) s.data.toList B k4 k4 (λj x J=>by
   have hj:j<s.size:=by have:=(List.getElem?_eq_some_iff.1 J).1;omega
   have N:Y[j]?=dB (xb xj (x.toNat:Int)):=by rw[<-Array.getElem?_toList,i,List.getElem?_append_left k4];unfold Lib.byteCells;rw[List.getElem?_map,J];rfl
   have L:((⟨b,0,eH⟩:Addr).add j)=⟨b,j,eH⟩:=by unfold Addr.add;split<;>simp_all
   rw[L];unfold World.cell?;simp only[l,N];rfl)
  have Q:((D.len:Nat):Int)=(j9 s.data.toList:Int):=k4
  have fz:∀(c:World) (n:Nat),(c.freeze ⟨b,0,eH⟩ n).heap.size=c.heap.size/\(∀k,k≠b->(c.freeze ⟨b,0,eH⟩ n).heap[k]?=c.heap[k]?)/\dl c (c.freeze ⟨b,0,eH⟩ n):=λc n=>by
   unfold World.freeze;split
   ·exact⟨k0,λ_ _=>rfl,dl.refl _⟩
   ·refine⟨k9,λk m=>?_,⟨k0,k0,k0,ql _⟩⟩;rw[wu,j3 λh=>m h.symm]
  obtain⟨X,U,V⟩:=fz q s.data.toList.length;refine⟨xf ⟨s.data.toList.toArray⟩,q.freeze ⟨b,0,eH⟩ s.data.toList.length,?_,V,⟨s.data.toList.toArray⟩,k0,k9,?_⟩
  ·rw[Q];exact u
  ·have s1:(w.setRow b Y).heap.size=w.heap.size:=by unfold World.setRow;simp
   have S:∀k,k≠b->(w.setRow b Y).heap[k]?=w.heap[k]?:=λk m=>by
    unfold World.setRow;rw[wu,j3 λh=>m h.symm]
   refine .zip ⟨by rw[X,a,s1,z];exact H.1,λk m r=>?_⟩;have p:k≠b:=by have:=Z.1;omega
   rw[U k p,a,S k p,z];exact H.2 k m r
theorem Rf(s:ByteArray)(h:Heap)(a:s.size<=2^31):ab xm 56 #[xf s] h λv h'=>v=xf s/\Sp h h' []:=by refine Jd s ?_;unfold Bz;refine(Wo s h a).mono ?_;rintro _ c ⟨rfl,b⟩;exact⟨_,k0,k0,b⟩
def ue(m:aE)(offs:Int)(w:Pow):List ByteArray:=if gT w offs then[]else m.aG.map Wl.bK.name
section
variable {B:aB} {h0 h:Heap} {As:List HP} {a pw:Addr} {offs:Int} {da:List aQ} {w:Pow} {ds:aF} {m:aE}
theorem Zi(x:cw)(q:bV m=eR)(H:aa B h0 h (bJ cm a pw (bn x) offs da w ds::dC x m::As)):
  ab xm 13 #[xd (dB a)] h λv h'=>∃r:Sl,v=r/\Sp h h' [al 9 r 1 Il (ue m offs w)]:=by
 refine Eg (dB a) ?_;unfold tk;refine(PN H).mono ?_;rintro _ j ⟨rfl,rfl⟩;refine⟨_,k0,bQ (λe=>?_) λu=>?_⟩
 ·have:ue m offs w=[]:=by unfold ue;rw[j1 e]
  rw[this];exact⟨⟨eH,0,0⟩,k0,(Sp.refl j).nil 9 1 Il⟩
 have G:ue m offs w=m.aG.map Wl.bK.name:=by unfold ue;rw[j3 (by rw[u];decide)]
 rw[G];have L:=(aa.dP H).2;have I:dV j x m:=H.at 1 k0;have R:=((cM m).1 q).2.2.2.1;obtain⟨z,F⟩:=bF.fix I.aG;have N:=F.2.1;have A:=F.1.len;refine⟨a,k0,x.2.2.2.2.2.2.2,L.cell k0,?_⟩;refine aw (λt:Sl×Nat=>(t.1,(t.2:Int))) (λt h'=>t.2<=j9 m.aG/\Sp j h' [al 9 t.1 1 Il ((m.aG.map Wl.bK.name).take t.2)]) (λt=>j9 m.aG-t.2) (⟨eH,0,0⟩,0) k0 ⟨k9,by simpa using(Sp.refl j).nil 9 1 Il⟩ ?_;rintro⟨o,i⟩ S ⟨Q,d⟩;dsimp only at Q d⊢;refine ai (λe=>?_) λe=>?_
 ·have c:i<j9 m.aG:=k4
  have b:=Fix.row F c;obtain⟨E,n⟩:∃E,E=m.aG[i]:=⟨_,rfl⟩
  have p:E∈m.aG:=by rw[n];exact qh c
  obtain⟨xe,f⟩:∃xe,xe=z[i]'(by omega):=⟨_,rfl⟩
  rw[<-n,<-f]at b;have k:xe.1=E.name:=b.1.1;have O:E.name.size<=12:=by have:=((iP m E).1 (((cM m).1 q).2.2.2.2.1 E p)).1;unfold mg at this;simp at this;omega
  refine(Seq.up F.1 d.aj).ey (g:=bN) i k0 k4 xe (by rw[f]) ?_;refine d.alloc ac k0 λy h3 M=>?_;refine M.storeAll ac 1 k0 k0 (bN xe) k0 k0 k0 k0 λs l=>?_;have l:Sp j s [al 9 o 1 Il ((m.aG.map Wl.bK.name).take i),ao y 94 (bN xe)]:=l;refine⟨xe.1,(l.box 1 k0).cell0 k0,(Rf xe.1 s (by rw[k];omega)).mono ?_⟩;rintro _ U ⟨rfl,J⟩;have K:=(l.up J.aj).cD [0];refine⟨_,k0,K.push ac 0 k0 aiN k0 k6 (λ_=>rfl) agy xe.1 k0 k6 k8 λD T P=>?_⟩;refine⟨(D,i+1),lb,⟨k7,?_⟩,k7⟩;dsimp only;rw[aH _ _ (show i<j9 (m.aG.map Wl.bK.name) by simpa using c),wo,<-n,<-k];exact P
 ·rw[qi oi]at d;exact⟨o,k0,d⟩
theorem aey(b:bV m=eR)(H:aa B h0 h (bL a pw da offs w ds m::As)):
  ab xm 13 #[xd (dB a)] h λv h'=>∃r:Sl,v=r/\Sp h h' [al 9 r 1 Il (ue m offs w)]:=by
 obtain⟨x,H⟩:=jo H;exact Zi x b H
end
section
variable {B:aB} {h0 h:Heap} {As:List HP} {a pw:Addr} {offs:Int} {da:List aQ} {w:Pow} {ds:aF}
end
section
theorem aco{m:aE}:ue m 0 Pow.new=m.aG.map Wl.bK.name:=by unfold ue;rw[j3 k6]
end
end Go.Qw
namespace Wl
open Go Go.Vc Go.Qw
def jp(l:List bK):List (Int×Int×Int):=l.flatMap λe=>(qx e.tries.length).map λi:Nat=>(e.object,(i:Int),bI e.object i (e.tries.getD i 0))
theorem UD{l:List bK}{i:Nat}(h:i<l.length):jp (l.take (i+1))=jp (l.take i)++((qx l[i].tries.length).map λj:Nat=>(l[i].object,(j:Int),bI l[i].object j (l[i].tries.getD j 0))):=by unfold jp;rw[aH _ _ h,List.flatMap_append,zg,zT,qL]
theorem Wq{l:List bK}{c n:Nat}(h:∀e∈l,e.tries.length<=c)(a:l.length<=n):(jp l).length<=n*c:=by unfold jp;refine zf (Go.Qw.Dy (c:=c) λe b=>?_) (zo _ a);rw[qw,zt];exact h e b
end Wl
namespace Go.Qw
open Go Go.Vc Go.Proofs Wl
def uf(x:Int×Int×Int):ba:=[xb xi x.1,xb xi x.2.1,xb xk x.2.2]
theorem aic:∀x,∀c∈uf x,c.oneCell'=eR:=by intro x c a;simp[uf]at a;rcases a with rfl|rfl|rfl<;>rfl
abbrev eBq:ce C.toCG 49 48 3 [xb xi 0,xb xi 0,xb xk 0] 24:=⟨_,_,k0,k0,k0,k0,k0,k0⟩
theorem Rg(y:cw)(m:aE)(h:Heap)(S:dV h y m)(K:bV m=eR):
  ab xm 17 #[ge y] h λv h'=>∃r:Sl,v=r/\Sp h h' [al 48 r 3 uf (jp m.aG)]:=by
 refine un y ?_;unfold nj;have M:m.aG.length<=12:=((cM m).1 K).2.2.2.1;have o:∀e∈m.aG,e.tries.length<=8:=λe F=>by
  have G:=(iP m e).1 (((cM m).1 K).2.2.2.2.1 e F);have T:=rx G.2.2.1.2;omega
 obtain⟨J,I,q2,q3⟩:=bF.jh S.aG;have Q:=I.len;refine(Sp.refl h).boxed λk G q=>?_;have q:Sp h G [al 48 ⟨eH,0,0⟩ 3 uf (jp (m.aG.take 0)),ao k 44 (bn y)]:=((q.nil 48 3 uf).cD [1,0])
 refine⟨y.2.2.2.2.2.2.2,(q.box 1 k0).cell k0,?_⟩;refine aw (λt:Sl×Nat=>(t.1,(t.2:Int))) (λt h'=>t.2<=m.aG.length/\Sp h h' [al 48 t.1 3 uf (jp (m.aG.take t.2)),ao k 44 (bn y)]) (λt=>m.aG.length-t.2) (⟨eH,0,0⟩,0) k0 ⟨zy _,q⟩ ?_;rintro⟨u,i⟩ T ⟨hi,d⟩;dsimp only at hi d⊢;refine ai (λe=>?_) λe=>?_
 rotate_left
 ·have H:i=m.aG.length:=k4
  rw[H,qS]at d;exact⟨u,k0,d.cD [0]⟩
 have a:i<m.aG.length:=k4
 have n:i<J.length:=k4
 obtain⟨E,B⟩:∃E,E=m.aG[i]:=⟨_,rfl⟩
 have ad:E.tries.length<=8:=o E (by rw[B];exact qh a);have b:=q3 i n a;rw[<-B]at b;obtain⟨x,f⟩:∃x,x=J[i]:=⟨_,rfl⟩
 rw[<-f]at b;obtain⟨⟨k1,p,k3⟩,N⟩:=b;have U:=N.len;refine(Seq.up I d.aj).ey (g:=bN) i k0 n x (by rw[f]) ?_;refine d.alloc ac k0 λA h3 X=>?_;refine X.storeAll ac 2 k0 k0 (bN x) k0 k0 k0 k0 λY w=>?_;have w:Sp h Y [al 48 u 3 uf (jp (m.aG.take i)++((qx 0).map λj:Nat=>(E.object,(j:Int),bI E.object j (E.tries.getD j 0)))),ao k 44 (bn y),ao A 94 (bN x)]:=by rw[List.range_zero,List.map_nil,qL];exact w
 refine⟨x.2.2.2,(w.box 2 k0).cell k0,?_⟩;have L:(jp (m.aG.take i)).length<=12*8:=Wq (λe F=>o e (List.mem_of_mem_take F)) k8;refine aw (λt:Sl×Nat=>(t.1,(t.2:Int))) (λt h'=>t.2<=E.tries.length/\Sp h h' [al 48 t.1 3 uf (jp (m.aG.take i)++((qx t.2).map λj:Nat=>(E.object,(j:Int),bI E.object j (E.tries.getD j 0)))),ao k 44 (bn y),ao A 94 (bN x)]) (λt=>E.tries.length-t.2) (u,0) k0 ⟨zy _,w⟩ ?_;rintro⟨W,j⟩ Z ⟨P,c⟩;dsimp only at P c⊢;refine ai (λO=>?_) λO=>?_
 rotate_left
 ·have D:j=E.tries.length:=k4
  refine⟨(W,i+1),lb,⟨k7,?_⟩,k7⟩;dsimp only;rw[UD a,<-B,<-D];exact c.cD [0,1]
 have l:j<E.tries.length:=k4
 have k5:=Seq.up N c.aj;refine k5.bC j k0 l E.tries[j] k0 ?_;have s:=c.box 2 k0;refine⟨x.2.1,s.cell k0,x.2.1,s.cell k0,?_⟩;refine(rk x.2.1 j E.tries[j] Z).mono ?_;rintro _ _ ⟨rfl,rfl⟩;refine⟨_,k0,⟨s.cell k0,trivial⟩,?_⟩;have R:bI x.2.1 j E.tries[j]=bI E.object j (E.tries.getD j 0):=by rw[p,dT 0 l]
 rw[R,p];refine c.oT ac uf eBq k0 [(E.object,(j:Int),bI E.object j (E.tries.getD j 0))] k0 (show 1*3<=2^20 by decide) l0 ⟨by rw[<-p];exact s.cell k0,trivial⟩ ?_;refine c.push ac 0 k0 eBq k0 k6 (λ_=>rfl) aic (E.object,(j:Int),bI E.object j (E.tries.getD j 0)) l0 k6 k8 λu3 V z=>?_;have z:Sp h V [al 48 u3 3 uf ((jp (m.aG.take i)++((qx j).map λj:Nat=>(E.object,(j:Int),bI E.object j (E.tries.getD j 0))))++[(E.object,(j:Int),bI E.object j (E.tries.getD j 0))]),ao k 44 (bn y),ao A 94 (bN x)]:=z;refine⟨⟨by rw[<-p];exact(z.box 2 k0).cell k0,trivial⟩,?_⟩;refine⟨(u3,j+1),lb,⟨k7,?_⟩,k7⟩;dsimp only;rw[List.range_succ,qW,List.map_singleton,<-qt];exact z
theorem Rh(s:Sl)(l:au)(h:Heap)(b:Rd h s 1 aq l)(j:j9 l<=2^30):ab xm 67 #[s] h λv h'=>∃r:Sl,v=r/\Sp h h' [al 3 r 1 aq l]:=by refine tz s ?_;unfold mR;have f:=b.len;rw[ag _];refine(Sp.refl h).make ac aq fN k6 0 k0 k0 0 (j9 l+2) k0 k4 k4 k4 λo k g e a=>?_;refine a.append ac 0 k0 fN ⟨_,_,k0,k0⟩ k0 k6 (λ_=>rfl) (Seq.up b a.aj) eT k8 λc i d=>?_;exact⟨c,k0,d⟩
theorem ND(w:Sl)(W:bz)(h:Heap)(k:dS (bF (cF 1 aq) 1 bo) h w W)(B:j9 W<=2^20)(z:∀l∈W,j9 l<=2^20):
  ab xm 22 #[w] h λv h'=>∃(r:Sl) (rs:List Sl),v=r/\rs.length=j9 W/\Sp h h' (al 22 r 1 bo rs::bA 3 1 aq rs W):=by
 refine rH w ?_;unfold lW;obtain⟨A,d,q,f⟩:=bF.jh k;have j:=d.len;refine aw (λt:Sl×List Sl=>(t.1,(j9 t.2:Int))) (λt h'=>j9 t.2<=j9 W/\Sp h h' (al 22 t.1 1 bo t.2::bA 3 1 aq t.2 (W.take t.2.length))) (λt=>j9 W-j9 t.2) (⟨eH,0,0⟩,[]) k0 ⟨k9,by simpa[bA]using(Sp.refl h).nil 22 1 bo⟩ ?_;rintro⟨s,rs⟩ m ⟨D,b⟩;dsimp only at*;refine ai (λe=>?_) (λe=>?_)
 ·have a:j9 rs<j9 W:=k4
  have g:=f rs.length k4 a;refine(Seq.up d b.aj).md rs.length k0 k4 ?_;generalize A[j9 rs]'(by omega)=x at g;have p:=z _ (qh a);refine(Rh x _ m (Seq.up g b.aj) k4).mono ?_;rintro v h3 ⟨c,rfl,n⟩;have u:=b.comp n;refine⟨c,k0,?_⟩;refine u.push ac 0 k0 aaW k0 k6 (λ_=>rfl) jx c k0 k6 k4 λo E y=>?_;refine⟨(o,rs++[c]),by dsimp only;rw[ag _];simp,⟨k8,?_⟩,k8⟩;dsimp only;rw[show(rs++[c]).length=j9 rs+1 by simp,aH _ _ a,pG qa];exact y
 ·have i:W.take rs.length=W:=qi k4;rw[i]at b;exact⟨s,rs,k0,k4,b⟩
theorem cells_one{p:Pm}{b:aY}(a:bH p=eR)(e:(j9 b:Int)<=p.1*p.2.2):j9 (splitB p b)<=1:=by
 have c:=(bZ p).1 a;unfold splitB;rw[qw,zt];unfold countP;split
 ·have d:0<p.1*p.2.2:=vU k4 k4;have f:((j9 b:Int)-1)/(p.1*p.2.2)<1:=Int.ediv_lt_of_lt_mul d k4;omega
 ·decide
theorem Zj{p:Pm}{b:aY}(a:bH p=eR)(d:0<j9 b):0<j9 (splitB p b):=by have c:=(bZ p).1 a;unfold splitB;rw[qw,zt];unfold countP;rw[a,zQ,j1 (j6 k4)];have:=Int.ediv_nonneg (show 0<=(j9 b:Int)-1 by omega) (Int.le_of_lt (vU (show 0<p.1 by omega) (show 0<p.2.2 by omega)));omega
theorem wRE{B:aB}{a h:Heap}{As:List HP}{r:Sl}{W:bz}(H:aa B a h (dh 22 r 3 1 aq W::As)):dS (bF (cF 1 aq) 1 bo) h r W:=by obtain⟨rs,c,b,z3⟩:=aa.Gj H λ_=>rfl;exact⟨rs,c,b,z3⟩
theorem RQ{f:au->au}{W:bz}{i:Nat}(a:i<j9 W)(z:au):((W.take i).map f++W.drop i).set i z=(W.take i).map f++z::W.drop (i+1):=by rw[qX _ _ k8,show i-j9 ((W.take i).map f)=0 by simp;omega,List.drop_eq_getElem_cons a];rfl
theorem agE{f:au->au}{W:bz}{i:Nat}(a:i<j9 W)(z:au)(h:i<j9 ((W.take i).map f++z::W.drop (i+1))):((W.take i).map f++z::W.drop (i+1))[i]=z:=by rw[List.getElem_append_right k8];simp[show i-min i W.length=0 by omega]
theorem aez{f:au->au}{W:bz}{i:Nat}(a:i<j9 W)(z y:au):((W.take i).map f++z::W.drop (i+1)).set i y=(W.take i).map f++y::W.drop (i+1):=by rw[qX _ _ k8,show i-j9 ((W.take i).map f)=0 by simp;omega];rfl
theorem acp{f:au->au}{W:bz}{i:Nat}(a:i<j9 W):(W.take i).map f++f W[i]::W.drop (i+1)=(W.take (i+1)).map f++W.drop (i+1):=by rw[aH _ _ a,qW,qt];rfl
theorem aeA{f:au->au}{W:bz}{i:Nat}(a:i<j9 W)(z:au):j9 ((W.take i).map f++z::W.drop (i+1))=j9 W:=by simp;omega
theorem acq{W:bz}{i:Nat}(c:i<j9 W):(W.take (i+1)).flatten=(W.take i).flatten++W[i]/\(W.take i).flatten.length+W[i].length<=j9 W.flatten:=by
 have a:(W.take (i+1)).flatten=(W.take i).flatten++W[i]:=by rw[aH _ _ c,List.flatten_append,List.flatten_singleton]
 refine⟨a,?_⟩;have b:=congrArg vd (congrArg List.flatten (List.take_append_drop (i+1) W));rw[List.flatten_append,a,qy,qy]at b;omega
def uJ(a:Int)(l:au):au:=l.filter λid=>decide (id≠a)
theorem aeB(a:Int){l:au}{j:Nat}(c:j<j9 l):uJ a (l.take (j+1))=if l[j]≠a then uJ a (l.take j)++[l[j]]else uJ a (l.take j):=by
 unfold uJ;rw[aH _ _ c,List.filter_append,List.filter_cons,List.filter_nil];by_cases h:l[j]=a
 ·rw[j3 rb,j3 λb=>b h,qL]
 ·rw[j1 rb,j1 h]
theorem NE(c0:Sl)(l:au)(n x t:Int)(h:Heap)(hs:Rd h c0 1 aq l):
  ab xm 3 #[c0,xb xi n,xb xi x,xb xi t] h λv h'=>v=xg eR/\Sp h h' []:=by
 refine pU c0 n x t ?_;unfold lI;refine(Wh c0 l h hs).mono ?_;rintro _ h1 ⟨r,rfl,R1⟩;refine⟨(jv l,Zb l,r),k0,R1.alloc ac k0 λa2 h2 H2=>?_⟩;refine H2.storeAll ac 1 k0 k0 [xb xi (jv l).1,xb xi (jv l).2.1,xb xi (jv l).2.2] k0 k0 k0 k0 λh3 H3=>?_;obtain⟨p,c5⟩:∃p,p=jv l:=⟨_,rfl⟩
 have hp:bH p=eR:=by rw[c5];exact abg _ _ _
 have eb:p.1<=6/\p.2.2<=9:=by rw[c5];unfold jv Dz;dsimp only;omega
 have i3:=(bZ p).1 hp;obtain⟨E,hE⟩:∃E,E=Zb l:=⟨_,rfl⟩
 have jj:0<=E/\E<=6:=by rw[hE];unfold Zb;omega
 dsimp only;rw[<-hE];rw[<-c5]at H3;have H3:Sp h h3 [al 3 r 1 aq (EL l),ao a2 24 [xb xi p.1,xb xi p.2.1,xb xi p.2.2]]:=H3;have H3:=H3.cD [1];obtain⟨G,hG⟩:∃G:au,G=[150,150,150]:=⟨_,rfl⟩
 have gk:G.length=3:=v1
 obtain⟨H,f1⟩:=agz (extra:=E) (l:=G) hp k4 k4 (by rw[hG];decide);have fin:∀{h3 h4:Heap} {pw:Addr} {q:Sl},Sp h h4 [eE 92 pw Pow.new,ao a2 24 [xb xi p.1,xb xi p.2.1,xb xi p.2.2],al 3 q 1 aq G]->
   ab xm 8 #[lN p,xb xi E,xd (dB pw),q] h4 λv h'=>∃(a pw:Addr) (da:List aQ) (D:aF),v=.tuple #[xd (dB a),xb xi 0]/\D.length=64/\(∀s,aW D s=if s∈bm G G.length then dB ⟨(G.getD s.toNat 0).toNat,bs (co p E G),0,[],eS,eS⟩else eH)/\
    Sp h h' [bL a pw da 0 Pow.new D (co p E G),ao a2 24 [xb xi p.1,xb xi p.2.1,xb xi p.2.2]]:=λ{h3 h4 pw q} H4=>by
  refine(Nf p E q G (As:=[ao a2 24 [xb xi p.1,xb xi p.2.1,xb xi p.2.2],al 3 q 1 aq G]) (St.fw 1 k0 λh' hq=>hq.1.seq (λ_=>rfl) hq.2) k4 H k0 H4).mono ?_;rintro _ h7 ⟨a,da,D,rfl,f2,f3,H7⟩;exact⟨a,pw,da,D,k0,f2,f3,H7.cD [0,1]⟩
 refine bO (λ(z:aQ×Int) h'=>∃(a pw:Addr) (da:List aQ) (D:aF),z=(dB a,0)/\D.length=64/\(∀s,aW D s=if s∈bm G G.length then dB ⟨(G.getD s.toNat 0).toNat,bs (co p E G),0,[],eS,eS⟩else eH)/\
  Sp h h' [bL a pw da 0 Pow.new D (co p E G),ao a2 24 [xb xi p.1,xb xi p.2.1,xb xi p.2.2]]) ?_ ?_
 ·refine⟨p,(H3.box 0 k0).aS _ k0,?_,?_⟩
  ·refine(Hu h3).mono ?_;rintro _ h4 ⟨pw,rfl,R4⟩;have H4:=H3.ck R4;refine⟨_,k0,⟨(H4.box 1 k0).cell0 k0,(H4.box 1 k0).cell k0,(H4.box 1 k0).cell k0,trivial⟩,?_⟩;refine H4.lit ac aq fN k0 G v1 k6 v1 λq h5 H5=>?_;refine⟨⟨(H5.box 1 k0).cell0 k0,(H5.box 1 k0).cell k0,(H5.box 1 k0).cell k0,trivial⟩,?_⟩;refine(fin (h3:=h3) H5).mono ?_;rintro _ h7 ⟨a,pw,da,D,rfl,f2,f3,H7⟩;exact⟨(dB a,0),k0,trivial,a,pw,da,D,k0,f2,f3,H7⟩
  ·refine H3.lit ac aq fN k0 G v1 k6 v1 λq h5 H5=>?_;refine⟨⟨(H5.box 0 k0).cell0 k0,(H5.box 0 k0).cell k0,(H5.box 0 k0).cell k0,trivial⟩,?_⟩;refine(Hu h5).mono ?_;rintro _ h4 ⟨pw,rfl,R4⟩;have H4:=H5.ck R4;refine⟨_,k0,⟨(H4.box 1 k0).cell0 k0,(H4.box 1 k0).cell k0,(H4.box 1 k0).cell k0,trivial⟩,?_⟩;refine(fin (h3:=h3) H4).mono ?_;rintro _ h7 ⟨a,pw,da,D,rfl,f2,f3,H7⟩;exact⟨(dB a,0),k0,trivial,a,pw,da,D,k0,f2,f3,H7⟩
 rintro⟨_,_⟩ h8 ⟨a,pw,da,D,he,f2,f3,H8⟩;injection he with he1 he2
 subst he1 he2;obtain⟨S0,F0,L0⟩:=abW (m:=co p E G) rfl H k4 f2 f3 λ_=>[];have dy:(co p E G).drives=[0,1,2]:=by show bm G G.length=_;rw[f1,gk];rfl
 have hD:∀k d,aW D k=dB d->d.wait=0/\d.room=150/\d.l.length<=9:=λk d B=>by
  rw[f3]at B;split at B
  ·rename_i hk;injection B with B
   subst B;have hk:k∈(co p E G).drives:=hk;rw[dy]at hk;refine⟨k0,?_,HV S0.may⟩;simp only[qV,List.not_mem_nil,or_false]at hk;rw[hG];rcases hk with rfl|rfl|rfl<;>rfl
  ·cases B
 refine bi (bi (bR (λe=>absurd k0 e) λ_=>bQ (λe=>ln) λ_=>?_));refine⟨p.1,(H8.box 1 k0).cell0 k0,p.2.2,(H8.box 1 k0).cell k0,?_⟩;have it:1<=p.1*p.2.2:=Int.le_trans k6 (yC (show(1:Int)<=p.1 by omega) (show(1:Int)<=p.2.2 by omega) k6 k4);have js:p.1*p.2.2<=54:=Int.le_trans (yC eb.1 eb.2 k4 k6) k6;dsimp only;rw[ag (p.1*p.2.2)];obtain⟨N,hN⟩:∃N,N=p.1*p.2.2:=⟨_,rfl⟩
 have i2:1<=N/\N<=54:=by rw[hN];omega
 rw[<-hN];refine(fT n N h8 k4 k4).mono ?_;rintro _ _ ⟨rfl,rfl⟩;have q0:=Int.emod_nonneg n (show N≠0 by omega);have q1:=Int.emod_lt_of_pos n (show 0<N by omega);obtain⟨T,hT⟩:∃T:Nat,1+n%N=(T:Int):=⟨(1+n%N).toNat,k4⟩
 refine⟨_,k0,?_⟩;dsimp only;rw[ag (1+n%N),hT];refine(Yt T x _ k4).mono ?_;rintro _ h9 ⟨v,b,rfl,ix,R9⟩;have H9:=H8.comp R9;have d4:(b.length:Int)<=p.1*p.2.2:=by rw[<-hN];omega
 refine⟨v,k0,?_⟩;have H9:Sp h h9 [bL a pw da 0 Pow.new D (co p E G),ao a2 24 [xb xi p.1,xb xi p.2.1,xb xi p.2.2],al 5 v 1 aD b]:=H9;have e1:v.len<=v.cap:=(H9.own 2 k0).cap;refine(agm Ef v b (As:=[ao a2 24 [xb xi p.1,xb xi p.2.1,xb xi p.2.2],al 5 v 1 aD b]) (St.fw 1 k0 λh' hq=>hq.1.seq (λ_=>rfl) hq.2) e1 k6 S0.may k4 H9).mono ?_;rintro _ d1 ⟨rfl,S⟩;have br:∀{h':Heap} {As:List HP},Sp h h' As->ae xm 14 #[] ci h' λr6 h6=>(λv e5=>v=Value.bool eR/\Sp h e5 []) (Value.bool r6) h6:=λ{h' As} H'=>by
  refine(UC h').mono ?_;rintro _ h6 ⟨rfl,R6⟩;exact⟨eR,k0,k0,.zip (H'.up R6.aj).aj⟩
 rcases agD (R:=150) (c:=1) S0 F0 rfl hD Ef b (cells_one hp d4)with⟨e,he,eq⟩|⟨tr,m,ds,eq,O⟩
 ·rw[eq]at S⊢;refine⟨e,k0,bR (λ_=>bj (λ_=>?_) λh=>l9) λh=>absurd h he⟩;refine(aey S0.may S).mono ?_;rintro _ g6 ⟨eg,rfl,ea⟩;have el:eg.len=0:=by rw[(ea.own 0 k0).len,aco];rfl
  exact⟨eg,k0,dD (λ_=>br (S.up ea.aj)) λe=>absurd (by rw[el];rfl) e⟩
 rw[eq]at S⊢;refine⟨0,k0,bR (λh=>absurd k0 h) λ_=>?_⟩;have S:Sp h d1 [bL a pw da 0 Pow.new ds m,ao a2 24 [xb xi p.1,xb xi p.2.1,xb xi p.2.2]]:=S.cD [0,1];obtain⟨live,I⟩:∃live,live=m.drives:=⟨_,rfl⟩
 have ej:live=be ds m.drives:=by rw[O.full.be];exact I
 have a7:live=[0,1,2]:=I.trans (O.drives.trans dy);have hm:=O.sto.may;have a6:=O.sto.ny;have ep:live.Nodup:=by rw[a7];decide
 have g4:∀k∈live,0<=k/\k<64:=by rw[a7];decide
 have a8:live.length=3:=by rw[a7];rfl
 have dd:m.p=p:=O.p;have g8:m.extra=E:=O.extra;have f0:tr.length=1:=by have h1:=cells_one hp d4;have h2:=Zj (b:=b) hp k4;have h3:tr.length=(splitB p b).length:=O.tl;omega
 have i8:=HV hm;have Y:∀k d,aW ds k=dB d->d.wait=0/\d.room=150/\d.l.length<=39:=λk d B=>by
  obtain⟨b1,b2,b3⟩:=O.row k d B;have b3:d.l.length<=27+1*(p.1+E).toNat:=b3;exact⟨b1,b2,k4⟩
 obtain⟨H,a9⟩:∃H:Wl.bK,H=⟨Ef,(co p E G).next,b.length,tr⟩:=⟨_,rfl⟩
 have ho:m.aG=[H]:=by rw[O.aG,a9]
 have d9:H∈m.aG:=by rw[ho];exact qB.2 k0
 have b7:H.tries.length=1:=by rw[a9];exact f0
 have g0:m.drives≠[]:=by rw[<-I,a7];decide
 obtain⟨L1,O1⟩:=One.more S0 L0 (Zf (n:=co p E G) λk d B c hc=>by
  rw[f3]at B;split at B
  ·injection B with B
   subst B;exact hc
  ·cases B) eq
 obtain⟨n0,d6⟩:∃n0,n0=(m.p.1+m.extra).toNat:=⟨_,rfl⟩
 have U:mA (cv m ds H.object ((0:Nat):Int) live) n0:=by rw[I,d6];exact acm O.sto O.full L1 O1 d9 k4
 have i6:(n0:Int)=p.1+E:=by rw[d6,dd,g8];omega
 refine(fT t 3 d1 k6 k6).mono ?_;rintro _ _ ⟨rfl,rfl⟩;obtain⟨T,hT⟩:∃T:Int,T=t%3:=⟨_,rfl⟩
 have fs:0<=T/\T<3:=by rw[hT];omega
 rw[<-hT];have dp:¬gw live.length T>4096:=by have hc:=abY ⟨3,k4⟩ ⟨T.toNat,k4⟩;dsimp only at hc;rw[Int.toNat_of_nonneg fs.1]at hc;rw[a8];omega
 have cn:∀k d,aW ds k=dB d->d.l.length<=d.room/\d.room<=512:=λk d B=>by have:=Y k d B;omega
 have cl:∀k d,aW ds k=dB d->d.wait=0:=λk d B=>(Y k d B).1;have d2:∀k∈live,∀d,aW ds k=dB d->(bs m).length+(cS m d.l).length<=d.room:=λk _ d B=>by
  have:=Y k d B;have:=nt m d.l;omega
 have b6:Roomy m live ds 64:=λs _ d B=>by
  have:=Y s d B;have:=nt m d.l;omega
 have Z:nV m live ds T 64:=⟨ej,k4,k4,dp,k6,g4⟩
 have P:EO m live live ds T H 0:=⟨O.can g0 d9 k4,aci ep k4 _⟩
 have r1:=Ze (G:=live) (M:=64) Z O.sto k0 (λs h=>h) cn cl d2 (λe he i hi=>by
  rw[ho]at he;have he:=qB.1 he;subst he;have e7:i=0:=k4
  subst e7;exact P) (by rw[ho];simpa[b7]using b6)
 have LS:=Wm Z O.sto cn cl d2 ho b7 P b6 U;obtain⟨a1,_,a3,a4,_⟩:=Zd Z O.sto cn cl;refine⟨T,k0,(YZ T 64 hm k4 S).mono ?_⟩;obtain⟨R,hR⟩:∃R,R=eK m 0 Pow.new ds T 64:=⟨_,rfl⟩
 rw[<-hR]at a1 a3 a4 r1 LS⊢;rintro _ g6 ⟨rfl,bl⟩;rw[a1]at bl;obtain⟨ds',ei⟩:∃ds',ds'=R.2.2.2:=⟨_,rfl⟩
 obtain⟨k,hk⟩:∃k,k=R.1:=⟨_,rfl⟩
 obtain⟨er,d8⟩:∃er,er=R.2.1:=⟨_,rfl⟩
 rw[<-ei]at bl a3 a4 LS;rw[<-hk,<-d8]at LS⊢;rw[<-d8]at r1;have b4:be ds' m.drives=live:=by rw[a3.live,<-ej]
 have hx:=LS.few;have o:eI m.p (bI H.object 0 (H.tries.getD 0 0)) (cv m ds' H.object ((0:Nat):Int) live).flatten=eR:=by refine ua a6 (λy X=>?_) (P.keep a6 a3).full;unfold iT fc at X;rw[b4]at X;obtain⟨z,hz,rfl⟩:=qo.1 X;obtain⟨s,hs,g7⟩:=zB.1 hz;obtain⟨q,hq,rfl⟩:=yQ.1 hs;exact Jc.2 ⟨q,by rw[jw hq];exact qo.2 ⟨z,g7,k0⟩⟩
 refine⟨((k:Int),er),k0,(KY hm bl).mono ?_⟩;rintro _ j5 ⟨y,rfl,g5⟩;have f4:=bl.comp g5;refine⟨y,k0,f4.alloc ac k0 λL i5 fn=>?_⟩;refine fn.storeAll ac 3 k0 k0 (bn y) k0 k0 k0 k0 λcq ay=>?_;have ay:Sp h cq [bL a pw da 0 Pow.new ds' m,ao a2 24 [xb xi p.1,xb xi p.2.1,xb xi p.2.2],dC y m,ao L 44 (bn y)]:=ay;have X:dV cq y m:=ay.at 2 k0;obtain⟨J,cs⟩:∃J:Int×Int×Int,J=(H.object,((0:Nat):Int),bI H.object 0 (H.tries.getD 0 0)):=⟨_,rfl⟩
 have en:jp m.aG=[J]:=by rw[ho,cs];unfold jp;rw[zg,zT,qL,b7];rfl
 refine⟨y,(ay.box 3 k0).aS _ k0,(Rg y m cq X hm).mono ?_⟩;rintro _ i1 ⟨d0,rfl,ec⟩;rw[en]at ec;have ed:=ay.comp ec;refine⟨d0,k0,?_⟩;refine(ed.seq 4 k0 λ_=>rfl).ey (g:=uf) 0 k0 k9 J k0 ?_;refine ed.alloc ac k0 λa28 j0 ek=>?_;refine ek.storeAll ac 5 k0 k0 (uf J) k0 k0 k0 k0 λe8 a5=>?_;have a5:Sp h e8 [bL a pw da 0 Pow.new ds' m,ao a2 24 [xb xi p.1,xb xi p.2.1,xb xi p.2.2],dC y m,ao L 44 (bn y),al 48 d0 3 uf [J],ao a28 48 (uf J)]:=a5;have hb:=a5.box 5 k0;refine⟨J.1,hb.cell0 k0,J.2.1,hb.cell k0,(PX J.1 J.2.1 hm a5).mono ?_⟩;rintro _ f6 ⟨ah,rfl,cd⟩;rw[b4]at cd;obtain⟨W,hW⟩:∃W,W=cv m ds' H.object ((0:Nat):Int) live:=⟨_,rfl⟩
 have eW:cv m ds' J.1 J.2.1 live=W:=by rw[cs,hW]
 rw[eW]at cd;obtain⟨seed,K⟩:∃seed,seed=J.2.2:=⟨_,rfl⟩
 have g2:seed=bI H.object 0 (H.tries.getD 0 0):=by rw[K,cs]
 have c1:=LS.upto;have eo:=LS.most;have c6:=LS.last;rw[<-hW]at c1 c6 o;rw[<-g2]at c6 o;have bd:W.length=3:=by rw[hW,gv,a8]
 have gs:W.flatten.length=n0+k:=c1.len;have hv:n0<=12:=k4
 have d5:Sp h f6 [ao a2 24 [xb xi p.1,xb xi p.2.1,xb xi p.2.2],dC y m,ao L 44 (bn y),ao a28 48 (uf J),dh 22 ah 3 1 aq W]:=(a5.comp cd).cD [1,2,3,5,6];have h0:ah.len=W.length:=(aa.DO (d5.cD [4])).1;have eh:∀{h':Heap} {A:HP} {Bs:List HP},Sp h h' (A::dC y m::ao L 44 (bn y)::Bs)->an h' (L.add 2) 0 [xb xi m.p.1,xb xi m.p.2.1,xb xi m.p.2.2]:=λ{h' A Bs} H'=>by
  have X:dV h' y m:=H'.at 1 k0;have gt:y.2.2.1=m.p.1:=congrArg (·.1) X.p;have hh:y.2.2.2.1=m.p.2.1:=congrArg (·.2.1) X.p;have g9:y.2.2.2.2.1=m.p.2.2:=congrArg (·.2.2) X.p;rw[<-gt,<-hh,<-g9];exact(H'.box 2 k0).cells 2 _ k0
 refine⟨ah,k0,?_⟩;refine aw (λz:Sl×Nat=>(z.1,(z.2:Int))) (λz h'=>z.2<=W.length/\Sp h h' [ao a2 24 [xb xi p.1,xb xi p.2.1,xb xi p.2.2],dC y m,ao L 44 (bn y),ao a28 48 (uf J),dh 22 ah 3 1 aq W,al 3 z.1 1 aq (W.take z.2).flatten]) (λz=>W.length-z.2) (⟨eH,0,0⟩,0) k0 ⟨zy _,d5.nil 3 1 aq⟩ ?_;rintro⟨u,i⟩ c2 ⟨hi,w⟩;dsimp only at hi w⊢;refine ai (λe=>?_) λe=>?_
 ·have F:i<W.length:=k4
  obtain⟨s1,s2⟩:=acq F;refine bF.mZ (wRE (w.cD [4])) i k0 F λxs f7=>?_;refine w.append ac 5 k0 fN ⟨_,_,k0,k0⟩ k0 k6 (λ_=>rfl) f7 eT k4 λo' c7 Q=>?_;exact⟨(o',i+1),lb,⟨k4,by dsimp only;rw[s1];exact Q⟩,k7⟩
 have cr:i=W.length:=k4
 rw[cr,qS]at w;refine aw (λi:Nat=>(i:Int)) (λi h'=>i<=n0+k/\c2=h') (λi=>n0+k-i) 0 k0 ⟨k4,k0⟩ ?_;rintro i _ ⟨hi,rfl⟩;dsimp only;refine⟨p.1,(w.box 0 k0).cell0 k0,?_⟩;dsimp only;rw[ag (p.1+E),ag (p.1+E+(k:Int))];refine ai (λe=>?_) λe=>?_
 ·refine(VJ u W.flatten i c2 (w.seq 5 k0 λ_=>rfl) k4).mono ?_;rintro _ _ ⟨rfl,rfl⟩;exact⟨_,k0,bj (λe2=>absurd ((c1.mem _).2 ⟨i,k4,k0⟩) (of_decide_eq_false e2)) λ_=>⟨i+1,ld,⟨k4,k0⟩,k4⟩⟩
 refine bO (λ(_:Unit) h'=>Sp h h' [ao a2 24 [xb xi p.1,xb xi p.2.1,xb xi p.2.2],dC y m,ao L 44 (bn y),ao a28 48 (uf J),dh 22 ah 3 1 aq W]) ?_ ?_
 ·refine⟨p.1,(w.box 0 k0).cell0 k0,bR (λe=>absurd ?_ e) λ_=>?_⟩
  ·rw[(w.own 5 k0).len,gs,ag (p.1+E),ag (p.1+E+(k:Int))];omega
  refine⟨m.p,eh w,J.2.2,(w.box 3 k0).cell k0,p,(w.box 0 k0).aS _ k0,?_⟩;rw[<-K];refine(Av m.p seed u W.flatten c2 (w.seq 5 k0 λ_=>rfl) k4).mono ?_;rintro _ c7 ⟨rfl,ht⟩;have Q:=w.up ht.aj;refine⟨_,k0,⟨(Q.box 0 k0).cell0 k0,(Q.box 0 k0).cell k0,(Q.box 0 k0).cell k0,(Q.box 0 k0).cell0 k0,trivial⟩,?_⟩;refine(ju p c7).mono ?_;rintro _ i4 ⟨rfl,gl⟩;have b9:=Q.up gl.aj;have e6:(nC m.p seed W.flatten:Int)=bD p:=by unfold eI at o;rw[a6,zQ]at o;rw[<-dd];exact beq_iff_eq.1 o
  exact⟨_,k0,⟨(b9.box 0 k0).cell0 k0,trivial⟩,bR (λe=>absurd e6 e) λ_=>bR (λe=>bR (λe2=>absurd (r1.resolve_left e) e2) λe2=>bR (λe3=>absurd (by rw[eo e2];rfl) e3) λ_=>b9.cD [0,1,2,3,4]) λ_=>b9.cD [0,1,2,3,4]⟩
 rintro _ ap ax;refine bO (λ(_:Unit) h'=>Sp h h' []) ?_ λ_ h' H'=>br H';refine bO (λ(z:Bool) h'=>(z=eR->0<k/\er=0)/\ap=h') ?_ ?_
 ·exact ai (λe=>⟨λz=>⟨Int.ofNat_lt.1 (show((0:Nat):Int)<(k:Int)from e),p8⟩,k0⟩) λe=>⟨λz=>(by cases z),k0⟩
 rintro z _ ⟨hz,rfl⟩;refine bQ (λe=>?_) λ_=>.zip ax.aj;obtain⟨fr,a9⟩:=hz e;obtain⟨Wp,w1,w2,w3⟩:=c6 a9 fr;obtain⟨f,a0⟩:∃f:Int,f=p.1+E+(k:Int)-1:=⟨_,rfl⟩
 have c4:∀l∈W,l.length<=76:=λl hl=>by
  have:=(List.sublist_flatten_of_mem hl).length_le;omega
 have b5:=wRE (ax.cD [4]);refine⟨p.1,(ax.box 0 k0).cell0 k0,(ND ah W ap b5 k4 λl hl=>by have:=c4 l hl;omega).mono ?_⟩;rintro _ hr ⟨ad,j2,rfl,du,bb⟩;have bb:Sp ap hr [dh 22 ad 3 1 aq W]:=aa.Gh du (by rw[qL];exact bb);refine⟨ad,k0,?_⟩;obtain⟨ws,ew,j4,fz⟩:=bF.jh b5;have hw:ad.len=W.length:=(aa.DO bb).1;refine aw (λi:Nat=>(i:Int)) (λi h'=>i<=W.length/\Sp ap h' [dh 22 ad 3 1 aq ((W.take i).map (uJ f)++W.drop i)]) (λi=>W.length-i) 0 k0 ⟨zy _,bb⟩ ?_;rintro i es ⟨hi,am⟩;dsimp only;refine ai (λe=>?_) λe=>?_
 ·have F:i<W.length:=k4
  have dk:i<((W.take i).map (uJ f)++W.drop i).length:=k8
  obtain⟨rs,pp,c9,ih,ii,f5⟩:=Ut dk am;have hf:=(f5.rest.nil 3 1 aq).bu;refine Uu (v:=⟨eH,0,0⟩) c9 dk k0 hf λip cf=>?_;rw[RQ F]at cf;refine(Seq.up ew cf.aj).md i k0 k4 ?_;refine aw (λj:Nat=>(j:Int)) (λj h'=>j<=W[i].length/\Sp ap h' [dh 22 ad 3 1 aq ((W.take i).map (uJ f)++uJ f (W[i].take j)::W.drop (i+1))]) (λj=>W[i].length-j) 0 k0 ⟨zy _,cf⟩ ?_;rintro j ha ⟨hj,ar⟩;have c8:Vc.Seq ha _ (ws[i]'(by omega)) 1 aq W[i]:=Seq.up (fz i k4 F) ar.aj;have i9:=c8.len;dsimp only;refine ai (λe2=>?_) λe2=>?_
  ·have d3:j<W[i].length:=k4
   refine c8.bC j k0 d3 (W[i][j]) k0 ?_;have f9:=c4 _ (qh F);have ef:(uJ f (W[i].take j)).length<=76:=by unfold uJ;have:=qT (λid=>decide (id≠f)) (W[i].take j);rw[qZ]at this;omega
   rw[ag (p.1+E),ag (p.1+E+(k:Int)),ag (p.1+E+(k:Int)-1),<-a0];have bk:=aeB f d3;refine bR (λe3=>?_) λe3=>?_
   ·rw[j1 e3]at bk;have cp:i<((W.take i).map (uJ f)++uJ f (W[i].take j)::W.drop (i+1)).length:=by rw[aeA F];exact F
    obtain⟨f8,p2,b0,bq,hu,cc⟩:=Ut cp ar;refine⟨p2,⟨bq,k4,k4⟩,f8[i]'(by omega),(by rw[qn];exact WZ 1 b0 cp bq k0 cc),?_⟩;rw[agE F]at cc;refine cc.push ac 0 k0 fN k0 k6 (λ_=>rfl) eT (W[i][j]) k0 k6 k4 λj1 i0 g3=>?_;refine Uu b0 cp k0 g3 λj3 d7=>⟨j+1,ld,⟨k4,?_⟩,k4⟩
    rw[aez F,<-bk]at d7;exact d7
   ·rw[j3 λhn=>hn e3]at bk;exact⟨j+1,ld,⟨k4,by rw[bk];exact ar⟩,k4⟩
  ·have e9:j=W[i].length:=k4
   rw[e9,qS,acp F]at ar;exact⟨i+1,ld,⟨k4,ar⟩,k4⟩
 have cr:i=W.length:=k4
 rw[cr,qS,List.drop_length,qL]at am;have dx:=ax.up am.aj;refine⟨m.p,eh dx,J.2.2,(dx.box 3 k0).cell k0,?_⟩;rw[<-K];have ef:∀l∈W.map (uJ f),l.length<=2^20:=λl hl=>by
  obtain⟨l',e4,rfl⟩:=qo.1 hl;have h1:=c4 l' e4;have h2:=qT (λid=>decide (id≠f)) l';show(List.filter (λid=>decide (id≠f)) l').length<=_;omega
 refine(BP m.p seed ad (W.map (uJ f)) T es (wRE am) oi ef (Int.le_refl _)).mono ?_;rintro _ i7 ⟨gi,rfl,g1⟩;have et:∃g,gU m.p seed (W.map (uJ f)) T=(g,eR,0):=by
  rw[BV a6 (by rw[qw,bd];omega) (by rw[qw,bd];decide) (by rw[qw,bd,<-a8];exact dp)];cases hq:jJ m.p seed (W.map (uJ f)) T.toNat with
  |some g=>exact⟨g,k0⟩
  |none=>
   refine absurd (Im (V:=Wp) (by rw[qw,w1,bd,a8]) (λq y X=>?_) hq) w2;by_cases dr:q<W.length
   ·rw[dT [] (by rw[qw];exact dr),wo]at X;obtain⟨y1,y2⟩:=qH.1 X;have y2:=j8 y2;refine w3 q y (by rw[dT [] dr];exact y1) ?_;rw[a0]at y2;omega
   ·rw[qe,qQ oi]at X;cases X
 obtain⟨g,hg⟩:=et;rw[hg];exact⟨(gi,eR,0),k0,bj (λe=>ln) λ_=>bR (λe=>absurd k0 e) λ_=>.zip ((ax.up am.aj).up g1.aj).aj⟩
theorem FO(s:Sl)(l:au)(n x t:Int)(h:Heap)(a:Rd h s 1 aq l):
  ab xm 3 #[s,xb xi n,xb xi x,xb xi t] h λv h'=>v=xg eR/\aX (λb=>b<h.size) h h':=
 (NE s l n x t h a).mono λ_ _ q=>⟨q.1,q.2.aj⟩
end Go.Qw
