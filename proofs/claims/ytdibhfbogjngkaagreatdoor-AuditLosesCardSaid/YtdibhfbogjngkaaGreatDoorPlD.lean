/- Lemmas for the proof of the law; no condition. -/
import Derived.Test.YtdibhfbogjngkaaGreatDoorPlB
set_option linter.unusedVariables false
set_option linter.unusedSimpArgs false
open Option renaming some -> dB
open Bool renaming true -> eL
open List renaming length -> ii
open Go.IntKind renaming bits -> qk, i64 -> xN, signed -> ve, u32 -> xP, u64 -> xQ, u8 -> xO, wrap -> qc
open Int renaming emod_lt_of_pos -> wh, emod_nonneg -> yc, fdiv -> qX, fdiv_eq_ediv_of_nonneg -> yN, tmod -> wB
open List renaming append_assoc -> qp, drop_drop -> zE, drop_of_length_le -> zf, exists_mem_of_ne_nil -> vz, ext_getElem? -> zC, filter_append -> zk, filter_cons -> zp, filter_cons_of_pos -> vf, filter_eq_nil_iff -> wZ, find?_eq_none -> wT, flatMap_append -> zg, foldl_cons -> zy, foldl_nil -> wE, getD_eq_getElem?_getD -> qe, getElem?_cons_succ -> qu, getElem?_cons_zero -> yf, getElem?_eq_getElem -> qd, getElem?_mapIdx -> vq, getElem?_toArray -> zR, getElem_mem -> qg, length_append -> qx, length_drop -> za, length_take -> qU, mem_append -> qz, mem_cons -> zd, mem_cons_self -> zb, mem_filter -> qI, mem_flatMap -> zJ, mem_map -> qw, mem_or_eq_of_mem_set -> wb, mem_range -> qG, nil_append -> wm, pairwise_append -> yh, pairwise_cons -> zF, range -> qE, range_eq_range' -> yX, range_succ -> zO, replicate -> qh, take_append_drop -> qA, take_left -> vR, take_of_length_le -> qi
open BitVec renaming ofInt -> qD, ofInt_natCast -> yg, ofNat_toNat -> vH, setWidth_eq -> vI
open Nat renaming le_refl -> qn, min_eq_left -> wX, zero_add -> zQ
open Option renaming map_some -> qQ
open Go.Builtin renaming append_ -> qt, copy_ -> wJ, firstCells -> wS
open UInt8 renaming ofNat -> yH
open Array renaming getElem?_modify -> wj
open Bool renaming and_eq_true -> qB, false_eq_true -> ze
open Go.Value renaming int -> xH
namespace Wl
def bI(p:Int×Int×Int):Bool:=decide (p.1>=1)&&(decide (p.1<=16)&&(decide (p.2.1>=1)&&(decide (p.2.1<=4)&&(decide (p.2.2>=1)&&decide (p.2.2<=24)))))
theorem ce(p:Int×Int×Int):bI p=eL↔(1<=p.1/\p.1<=16)/\(1<=p.2.1/\p.2.1<=4)/\1<=p.2.2/\p.2.2<=24:=by simp[bI,and_assoc]
def bS(p:Int×Int×Int):Int:=if bI p then p.1+p.2.1 else 0
open Go
def Fe(s:Int):Int:=qc xQ (qc xQ (s*(6364136223846793005:Int))+(1442695040888963407:Int))
def told(s:Int):Int:=qc xP (qX (Fe s) (2^min (32:Int).toNat (qk xQ)))
def mb(s n:Int):Int:=qc xN (wB (qc xQ (told s)) (qc xQ n))
theorem wrap_u64(x:Int):qc xQ x=x%18446744073709551616:=rfl
theorem xX(s n:Int)(c:0<n:=by omega)(f:n<=2^62:=by omega):0<=mb s n/\mb s n<n:=by
 unfold mb;have a:qc xQ n=n:=o7
 rw[a];have d:0<=qc xQ (told s):=o7
 have e:=Int.tmod_lt_of_pos (qc xQ (told s)) c;have b:0<=wB (qc xQ (told s)) n:=Int.tmod_nonneg n d;rw[Go.Vc.ak _];exact⟨b,e⟩
def kZ(l:aF)(i:Nat):Int:=l.getD i 0
def sI(l:aF)(i j:Nat):aF:=(l.set i (kZ l j)).set j (kZ l i)
theorem Sz(l:aF)(i j:Nat):ii (sI l i j)=ii l:=by simp[sI]
def gq(n:Nat)(s:Int)(l:aF):Nat->Int×aF
 |0=>(s,l)
 |k+1=>(Fe (gq n s l k).1,sI (gq n s l k).2 k (k+(mb (gq n s l k).1 ((n-k:Nat):Int)).toNat))
theorem xY(n:Nat)(s:Int)(l:aF):∀k,(gq n s l k).2.length=ii l
 |0=>rfl
 |k+1=>by rw[gq,Sz,xY n s l k]
theorem Kw{l:aF}{i:Nat}(h:i<ii l):kZ l i∈l:=by rw[kZ,qe,qd h];exact qg h
theorem acI{l:aF}{i j:Nat}(a:i<ii l)(c:j<ii l){x:Int}(b:x∈sI l i j):x∈l:=by
 rcases wb b with h|h
 ·rcases wb h with h|h
  ·exact h
  ·rw[h];exact Kw c
 ·rw[h];exact Kw a
def upto(n:Nat):aF:=(qE n).map λi:Nat=>(i:Int)
theorem gJ(n:Nat):ii (upto n)=n:=by simp[upto]
theorem Kx(n:Nat)(s:Int):∀k,k<=n->∀x∈(gq n s (upto n) k).2,0<=x/\x<n
 |0,_,x,hx=>by
  simp only[gq,upto,qw,qG]at hx;obtain⟨i,l,rfl⟩:=hx;omega
 |k+1,hk,x,hx=>by
  have d:k<n->n-k<=2^62->k+(mb (gq n s (upto n) k).1 ((n-k:Nat):Int)).toNat<n:=λm j=>by
   have:=xX (gq n s (upto n) k).1 ((n-k:Nat):Int);omega
  have f:=xY n s (upto n) k;rw[gJ]at f;by_cases b:n-k<=2^62
  ·refine Kx n s k i4 x (acI i4 ?_ hx);have:=d i4 b;omega
  ·--beyond any size:what is set is 0 or a member
   have c:∀y∈sI (gq n s (upto n) k).2 k (k+(mb (gq n s (upto n) k).1 ((n-k:Nat):Int)).toNat),y∈(gq n s (upto n) k).2∨y=0:=by
    intro y e;have g:∀i,kZ (gq n s (upto n) k).2 i∈(gq n s (upto n) k).2∨kZ (gq n s (upto n) k).2 i=0:=λi=>by
     by_cases h:i<(gq n s (upto n) k).2.length
     ·exact .inl (Kw h)
     ·right;simp only[kZ,qe];rw[List.getElem?_eq_none i4];rfl
    rcases wb e with h|h
    ·rcases wb h with h|h
     ·exact .inl h
     ·rw[h];exact g _
    ·rw[h];exact g _
   rcases c x hx with h|h
   ·exact Kx n s k i4 x h
   ·subst h;omega
def gK(l:aF):aF:=l.mergeSort λx y=>decide (x<=y)
theorem GC(l:aF):ii (gK l)=ii l:=List.length_mergeSort l
theorem Bt(l:aF)(x:Int):x∈gK l↔x∈l:=List.mem_mergeSort
def IR(s:Int)(n k:Nat):aF:=gK ((gq n s (upto n) k).2.take k)
theorem acJ{s:Int}{n k:Nat}(b:k<=n){x:Int}(a:x∈IR s n k):0<=x/\x<n:=
 Kx n s k b x (List.mem_of_mem_take ((Bt _ _).1 a))
theorem acK(s:Int)(n k:Nat)(a:k<=n):ii (IR s n k)=k:=by rw[IR,GC,qU,xY,gJ];omega
def fq(l:Nat):Nat:=if l<=1 then l else if l<=4 then 2 else if l<=9 then 3 else if l<=16 then 4 else 5
def IS(r:Nat):Nat:=if r=0 then 0 else if r=1 then 1 else if r<=3 then 2 else 3
def rV(l k:Nat):Nat:=
 (if k>1 then 1048576/(k*(k-1))else 1048576/l)+
  (if k<l/fq l then 1048576*fq l/(l*k)else if k=l/fq l then 1048576*fq l*IS (fq l)/l else 0)
def mL(l:Nat):Nat->Nat
 |0=>0
 |k+1=>mL l k+rV l (k+1)
def jC(l:Nat):aF:=(qE l).map λk=>((mL l (k+1):Nat):Int)
theorem lN(l:Nat):ii (jC l)=l:=by simp[jC]
def XL(t:aF)(x:Int):Nat:=(t.findIdx λy=>decide (y>x))+1
theorem LJ:∀l,l<=20->∀k,k<=20->rV l k<=2^30:=j4
theorem IT(l:Nat)(a:l<=20):∀k,k<=20->mL l k<=k*2^30
 |0,_=>by simp[mL]
 |k+1,hk=>by
  have:=IT l a k i4;have:=LJ l a (k+1) hk;rw[mL];omega
theorem SB:∀l,l<=20->1<=l->0<mL l l:=j4
theorem LK(l:Nat)(h:1<=l):(jC l).getLast?=dB ((mL l l:Nat):Int):=by
 obtain⟨k,rfl⟩:∃k,l=k+1:=⟨l-1,i4⟩
 simp[jC,zO]
def GD(seed id:Int):Int:=qc xQ (qc xP ((qD (qk xP) seed^^^(qD (qk xP) (qc xP ((qc xP id)*(2654435761:Int))))).toNat:Nat))
def IU(s:Int)(n:Nat):Nat:=XL (jC n) (mb s (mL n n))
theorem xZ(s:Int)(n:Nat)(b:1<=n)(a:n<=20):IU s n<=n:=by unfold IU XL;have e:=SB n a b;have d:=IT n a n a;have c:=xX s (mL n n);have:=List.findIdx_lt_length_of_exists (p:=λy=>decide (y>mb s (mL n n))) (xs:=jC n) ⟨_,List.mem_of_getLast? (LK n b),by simpa using c.2⟩;rw[lN]at this;omega
def bV(id:Int):Bool:=decide (0<=id)&&decide (id<=65535)
def dj(n:Nat)(seed id:Int):aF:=IR (Fe (Fe (GD seed id))) n (IU (Fe (GD seed id)) n)
theorem mM{n:Nat}(c:1<=n)(a:n<=20){seed id x:Int}(b:x∈dj n seed id):0<=x/\x<n:=acJ (xZ _ n c a) b
theorem Bu{n:Nat}(b:1<=n)(a:n<=20)(seed id:Int):ii (dj n seed id)<=n:=by rw[dj,acK _ _ _ (xZ _ n b a)];exact xZ _ n b a
def ga(n:Nat)(l:aF):bc:=l.foldl (λr i=>r.set i.toNat 1) (qh n 0)
theorem rX(n:Nat)(l:aF):ii (ga n l)=n:=by
 have:∀(l:aF) (r:bc),ii (l.foldl (λr i=>r.set i.toNat 1) r)=ii r:=by
  intro l
  induction l with
  |nil=>intro r;rfl
  |cons a t ih=>intro r;rw[zy,ih];simp
 rw[ga,this];simp
def oC(n:Nat)(seed id:Int):bc:=ga n (dj n seed id)
theorem SC(n:Nat)(seed id:Int):ii (oC n seed id)=n:=rX _ _
def lO(K H h:Nat):bc:=(qE K).map (λj=>Gf.pw ((h+1)*(j+1)%255))++(qE H).map λi=>if i=h then 1 else 0
def bD(K H:Nat):cP:=(qE H).map (lO K H)
theorem yS(K H h:Nat):ii (lO K H h)=K+H:=by simp[lO]
def dH(p:Int×Int×Int)(seed:Int)(ids:aF):cP:=
 if bI p then bD p.1.toNat p.2.1.toNat++(ids.filter bV).map (oC (bS p).toNat seed)else[]
theorem oD{α:Type}{f:α->Bool}{l:List α}{k:Nat}(a:k<ii l):(l.take (k+1)).filter f=if f l[k]then(l.take k).filter f++[l[k]]else(l.take k).filter f:=by rw[List.take_succ_eq_append_getElem a,zk];by_cases h:f l[k]=eL<;>simp[h]
abbrev Row:=bc
abbrev aQ:=List Row
def scaleB(c:UInt8)(l:Row):Row:=l.map (Gf.mul c)
def cR(c:UInt8)(a to:Row):Row:=List.zipWith (λx y=>y^^^Gf.mul c x) a to
def aP(r:Row)(bx:Nat):UInt8:=r.getD bx 0
def aD(m:aQ)(i:Nat):Row:=m.getD i []
def iN(m:aQ)(a bx:Nat):Option Nat:=(qE m.length).find? λi=>decide (a<=i)&&(aP (aD m i) bx !=0)
def iZ(m:aQ)(i j:Nat):aQ:=(m.set i (aD m j)).set j (aD m i)
def eP(a bx:Nat)(m:aQ)(k:Nat):aQ:=m.mapIdx λi r=>if i<k/\i≠a then cR (aP r bx) (aD m a) r else r
def jM(a bx:Nat)(m:aQ):aQ:=m.set a (scaleB (Gf.inv (aP (aD m a) bx)) (aD m a))
def ja(s:Nat×aQ)(bx:Nat):Nat×aQ:=
 match iN s.2 s.1 bx with
 |none=>s
 |some i=>(s.1+1,eP s.1 bx (jM s.1 bx (iZ s.2 s.1 i)) s.2.length)
def bG(m:aQ):Nat->Nat×aQ
 |0=>(0,m)
 |c+1=>ja (bG m c) c
def eu(m:aQ):Nat:=ii (aD m 0)
def bW(m:aQ):Nat:=(bG m (eu m)).1
def aZ(n:Nat)(m:aQ):Prop:=∀r∈m,ii r=n
theorem oP(c:UInt8)(l:Row):ii (scaleB c l)=ii l:=by simp[scaleB]
theorem bT{c:UInt8}{a t:Row}(h:ii a=ii t:=by omega):ii (cR c a t)=ii t:=by simp[cR,h]
theorem bA{m:aQ}{i:Nat}(h:i<ii m):aD m i=m[i]:=by rw[aD,qe,qd h];rfl
theorem cl{n:Nat}{m:aQ}(h:aZ n m){i:Nat}(a:i<ii m:=by omega):ii (aD m i)=n:=by rw[bA a];exact h _ (qg a)
theorem Ky{n:Nat}{m:aQ}(h:aZ n m){i:Nat}{r:Row}(b:ii r=n):aZ n (m.set i r):=λx a=>by
 rcases wb a with h1|h1
 ·exact h x h1
 ·rw[h1];exact b
theorem XM{P:Nat->Bool}{n:Nat}(h:∀j,j<n->P j=false):(qE n).find? P=none:=by rw[wT];intro x a;rw[qG]at a;simp[h x a]
theorem XN{P:Nat->Bool}{n k:Nat}(f:k<n)(h:∀j,j<k->P j=false)(d:P k=eL):(qE n).find? P=dB k:=by
 rw[List.find?_eq_some_iff_append];refine⟨d,qE k,List.range' (k+1) (n-k-1),?_,λa b=>?_⟩
 ·rw[yX,yX];have c:n=k+(n-k):=i4
  have e:n-k=(n-k-1)+1:=i4
  conv=>lhs;rw[c,<-List.range'_append_1 (s:=0) (m:=k) (n:=n-k)]
  rw[zQ]
  conv=>lhs;rw[e,List.range'_succ]
 ·rw[qG]at b;simp[h a b]
theorem sJ{m:aQ}{a bx i:Nat}(h:iN m a bx=dB i):a<=i/\i<ii m/\aP (aD m i) bx≠0:=by have b:=List.find?_some h;have c:=List.mem_of_find?_eq_some h;simp at b c;exact⟨b.1,c,b.2⟩
theorem Vl{m:aQ}{a bx:Nat}(h:iN m a bx=none):∀i,a<=i->i<ii m->aP (aD m i) bx=0:=λi c b=>by
 have:=wT.1 h i (qG.2 b);simpa[c]using this
theorem lG(m:aQ)(i j:Nat):ii (iZ m i j)=ii m:=by simp[iZ]
theorem GF{n:Nat}{m:aQ}(h:aZ n m){i j:Nat}(a:i<ii m)(b:j<ii m):aZ n (iZ m i j):=Ky (Ky h (cl h b)) (cl h a)
theorem oE(t c:Nat)(m:aQ):ii (jM t c m)=ii m:=by simp[jM]
theorem Bv{n:Nat}{m:aQ}(h:aZ n m){t c:Nat}(a:t<ii m):aZ n (jM t c m):=Ky h (by rw[oP];exact cl h a)
theorem oF(t c:Nat)(m:aQ)(k:Nat):ii (eP t c m k)=ii m:=by simp[eP]
theorem Bw{n:Nat}{m:aQ}(h:aZ n m){t c k:Nat}(b:t<ii m):aZ n (eP t c m k):=λx e=>by
 obtain⟨i,d,rfl⟩:=List.mem_mapIdx.1 e;have a:=h _ (qg d);split
 ·rw[bT (by rw[cl h b,a])];exact a
 ·exact a
theorem ZQ(t c:Nat)(m:aQ):eP t c m 0=m:=by apply zC;intro i;simp[eP,vq]
theorem rY{t c k:Nat}{m:aQ}{i:Nat}(a:i<ii m):aD (eP t c m k) i=if i<k/\i≠t then cR (aP (aD m i) c) (aD m t) (aD m i)else aD m i:=by rw[bA (by rw[oF];exact a),bA a];simp[eP]
theorem ZR{t c k:Nat}{m:aQ}(d:k<ii m)(b:k≠t):eP t c m (k+1)=(eP t c m k).set k (cR (aP (aD m k) c) (aD m t) (aD m k)):=by
 apply zC;intro i;simp only[eP,List.getElem?_set,vq,List.length_mapIdx];by_cases a:k=i
 ·subst a;simp only[if_true,d,qd d,qQ];rw[f9 ⟨i4,b⟩,bA d]
 ·rw[g0 a];congr 1;funext r;by_cases h:i<k/\i≠t
  ·rw[f9 h,f9 ⟨i4,h.2⟩]
  ·rw[g0 h,g0 λe=>h ⟨i4,e.2⟩]
theorem ZS{t c:Nat}{m:aQ}:eP t c m (t+1)=eP t c m t:=by
 apply zC;intro i;simp only[eP,vq];congr 1;funext r;by_cases h:i<t/\i≠t
 ·rw[f9 h,f9 ⟨i4,h.2⟩]
 ·rw[g0 h,g0 λa=>h ⟨i4,a.2⟩]
theorem ZT{n:Nat}{s:Nat×aQ}(h:aZ n s.2)(bx:Nat):aZ n (ja s bx).2/\(ja s bx).2.length=ii s.2:=by
 unfold ja;cases hb:iN s.2 s.1 bx with
 |none=>exact⟨h,i0⟩
 |some i=>
  have a:=sJ hb;dsimp only;refine⟨Bw (Bv (GF h i4 a.2.1) (by rw[lG];omega)) (by rw[oE,lG];omega),by rw[oF,oE,lG]⟩
theorem gG{n:Nat}{m:aQ}(h:aZ n m):∀c,aZ n (bG m c).2/\(bG m c).2.length=ii m
 |0=>⟨h,i0⟩
 |c+1=>by
  have:=gG h c;have a:=ZT this.1 c;rw[bG];exact⟨a.1,by rw[a.2,this.2]⟩
theorem acL{s:Nat×aQ}(h:s.1<=ii s.2)(bx:Nat):(ja s bx).1<=(ja s bx).2.length:=by
 unfold ja;cases hb:iN s.2 s.1 bx with
 |none=>exact h
 |some i=>
  have a:=sJ hb;dsimp only;rw[oF,oE,lG];omega
theorem DY(m:aQ):∀c,(bG m c).1<=(bG m c).2.length
 |0=>by simp[bG]
 |c+1=>acL (DY m c) c
end Wl
namespace Go.Vc
open Go
section
variable {C:Ctx} {t t2 ty e k:Nat} {z:be} {by_:Nat} {α:Type} {h h0:Heap} {p B:aB} {s v:Sl} {f:α->be} {l l2:List α} {As:List HP}
theorem Own.SD(N:C.Ok)(R:bL C.toCM t e k z by_)(D:∀x,ii (f x)=k)(r:Own h e s k f l)(O:Seq h p v k f l2)(u:∀x,∀c∈f x,c.oneCell'=eL)(j:Nat)(T:j<=ii l){A:aT}{G V:Nat}(i:A=if s.cap=j then s.ptr else s.ptr.map (·.add (j*k)))(y:G=s.len-j){K:Int->Heap->Prop}
  (E:∀n h',Own h' e s k f (l.take j++(l2.take (ii l-j)++l.drop (j+ii l2)))->aV (λb=>¬s.on b) h h'->K n h'):
  az C.P (wJ #[t,t2] ty #[.slice A G V,.slice v.ptr v.len v.cap]) (.one (.sc (.int .i64))) h K:=by
 unfold az wJ;simp only[zR,yf,qu];refine ag.bind (ag.always (aJ (R.under N)) ?_);refine ag.bind (ag.pure' ?_);refine ag.bind (ag.always (R.size N) ?_);have g:=r.len;have q:=O.len;have Q:=r.cap;obtain⟨m,F⟩:∃m,m=Nat.min v.len G:=⟨_,rfl⟩
 rw[<-F];have L:m<=ii l2:=by rw[F,<-q];exact Nat.min_le_left _ _
 have w:m<=ii l-j:=by rw[F,<-g,y];exact Nat.min_le_right _ _
 have S:m=min l2.length (ii l-j):=by rw[F,y,g,q]
 have M:=O.take m L;have X:l2.take (ii l-j)++l.drop (j+ii l2)=l2.take m++l.drop (j+m):=by
  rcases Nat.le_total l2.length (ii l-j)with hh|hh
  ·rw[qi hh,show m=ii l2 by omega,List.take_length]
  ·rw[show m=ii l-j by omega,zf (show l.length<=j+ii l2 by omega),zf i4]
 rw[X]at E;have I:wS k m (.slice v.ptr v.len v.cap)=wS k m (.slice v.ptr m v.cap):=by cases v.ptr<;>rfl
 rw[I];refine ag.bind (fH (v:=⟨v.ptr,m,v.cap⟩) D M ?_);have d:m=0->l.take j++(l2.take m++l.drop (j+m))=l:=λe=>by rw[e];simp
 rcases r.head with⟨h1,h2,h3⟩|⟨b,rest,h1,h2,h3,h4⟩
 ·have a:A=none:=by rw[i,h1];split<;>rfl
  rw[a];subst h3;have:m=0:=by simp at w;exact w
  refine ag.pure' ⟨_,i0,E _ h ?_ (aV.refl _ _)⟩;rw[d this];exact r
 ·by_cases o:s.cap=j
  ·have a:A=dB ⟨b,0,none⟩:=by rw[i,f9 o,h1]
   rw[a];have B:m=0:=i4
   refine ag.bind ?_;rw[B];simp only[List.take_zero,List.flatMap_nil];exact ag.pure' (ag.pure' ⟨_,i0,E _ h (by rw[d B];exact r) (aV.refl _ _)⟩)
  ·have a:A=dB ⟨b,0+j*k,none⟩:=by rw[i,g0 o,h1];simp only[qQ];rw[add_eq]
   rw[a];refine ag.bind ?_;have H:l.flatMap f++rest=(l.take j).flatMap f++((l.drop j).take m).flatMap f++((l.drop (j+m)).flatMap f++rest):=by rw[<-qp,<-zg,<-zg,<-zE,qp (List.take j l),qA,qA]
   rw[H]at h2;refine dp (e:=e) (pre:=(l.take j).flatMap f) (old:=((l.drop j).take m).flatMap f) (post:=(l.drop (j+m)).flatMap f++rest) h2 (by rw[cQ D,cQ D,qU,qU,za];congr 1;omega) (by rw[cQ D,qU];rw[wX T];omega) ?_ ?_
   ·intro c U;obtain⟨x,_,J⟩:=zJ.1 U;exact u x c J
   ·refine ag.pure' ⟨_,i0,E _ _ ⟨by rw[g,qx,qx,qU,qU,za];omega,.inr ⟨b,rest,h1,?_,h3,h4⟩⟩ (aV.gC h2 λW=>W ⟨0,h1⟩)⟩;rw[fW h2,f9 i0,zg,zg];simp[qp]
theorem aa.SD(u:C.Ok)(H:aa B h0 h As)(i:Nat)(o:As[i]?=dB (aq e s k f l))(D:bL C.toCM t e k z by_)(q:∀x,ii (f x)=k)(w:Seq h p v k f l2)(a:∀x,∀c∈f x,c.oneCell'=eL)(j:Nat)(r:j<=ii l){m:aT}{g A:Nat}(d:m=if s.cap=j then s.ptr else s.ptr.map (·.add (j*k)))(b:g=s.len-j){K:Int->Heap->Prop}
  (E:∀n h',aa B h0 h' (As.set i (aq e s k f (l.take j++(l2.take (ii l-j)++l.drop (j+ii l2)))))->K n h'):
  az C.P (wJ #[t,t2] ty #[.slice m g A,.slice v.ptr v.len v.cap]) (.one (.sc (.int .i64))) h K:=
 (H.own i o).SD u D q w a j r d b λn h' x y=>E n h' (H.kX i o y x)
end
end Go.Vc
namespace Wl
open Go
def b8(n:Int):UInt8:=yH (n%256).toNat
theorem dR(n:Int):qc xO n=((b8 n).toNat:Int):=by
 have h0:=yc n (show(256:Int)≠0 by decide);have a:=wh n (show(0:Int)<256 by decide);have e:((b8 n).toNat:Int)=n%256:=by unfold b8;rw[UInt8.toNat_ofNat'];omega
 rw[e];unfold qc;simp[qk,ve]
abbrev jl:=BitVec 32
def jD(s:jl):jl:=if s&&&1#32=1#32 then(s>>>1)^^^3988292384#32 else s>>>1
def dS:Nat->jl->jl
 |0,s=>s
 |n+1,s=>jD (dS n s)
def mq(s:jl)(x:UInt8):jl:=dS 8 (s^^^BitVec.ofNat 32 x.toNat)
def kQ(l:bc):jl:=l.foldl mq 4294967295#32
def md(l:bc):jl:=4294967295#32^^^kQ l
theorem XO(l:bc)(x:UInt8):kQ (l++[x])=mq (kQ l) x:=by unfold kQ;rw[List.foldl_append];rfl
theorem SE(s:jl):qc xP ((s.toNat:Nat):Int)=(s.toNat:Int):=by have:=s.isLt;unfold qc;simp[qk,ve];omega
theorem XP(a b:jl):qc xP ((qD (qk xP) (a.toNat:Int)^^^qD (qk xP) (b.toNat:Int)).toNat:Nat)=((a^^^b).toNat:Int):=by show qc xP (((qD 32 (a.toNat:Int)^^^qD 32 (b.toNat:Int):BitVec 32).toNat:Nat):Int)=_;rw[yg,yg,vH,vH,vI,vI,SE]
theorem aim(a b:jl):qc xP ((qD (qk xP) (a.toNat:Int)&&&qD (qk xP) (b.toNat:Int)).toNat:Nat)=((a&&&b).toNat:Int):=by show qc xP (((qD 32 (a.toNat:Int)&&&qD 32 (b.toNat:Int):BitVec 32).toNat:Nat):Int)=_;rw[yg,yg,vH,vH,vI,vI,SE]
theorem PC(n:Int):qc xP n=((qD 32 n).toNat:Int):=by unfold qc;simp[qk,ve,BitVec.toNat_ofInt];omega
theorem afy(s:jl):qX (s.toNat:Int) (2^min (1:Int).toNat (qk xP))=((s>>>1).toNat:Int):=by rw[show min (1:Int).toNat (qk xP)=1 from i0,yN _ i5,BitVec.toNat_ushiftRight,Nat.shiftRight_eq_div_pow];simp
theorem WS(s:jl):((s&&&1#32).toNat:Int)=1↔s&&&1#32=1#32:=by
 constructor
 ·intro h;apply BitVec.eq_of_toNat_eq;have:(1#32:jl).toNat=1:=rfl;omega
 ·intro h;rw[h];rfl
def lc(s:jl):bc:=(qE 4).map λi=>b8 (qX (s.toNat:Int) (2^(8*i)))
theorem DZ(s:jl):ii (lc s)=4:=by simp[lc]
def dI(kind:Int)(a:bc):bc:=[87,115,1,b8 kind]++a++qh (55-ii a) 0
def ey(kind:Int)(a:bc):bc:=
 if 1<=kind/\kind<=255/\a.length<=55 then dI kind a++lc (md (dI kind a))++[165]else[]
theorem Aa{kind:Int}{a:bc}(h:ii a<=55):ii (dI kind a)=59:=by simp[dI];omega
theorem nV{kind:Int}{a:bc}(c:1<=kind)(b:kind<=255)(h3:ii a<=55):ii (ey kind a)=64:=by unfold ey;rw[f9 ⟨c,b,h3⟩];simp[Aa h3,DZ]
end Wl
namespace Go.Vc
open Go
def iT(s:ByteArray):bc:=s.data.toList
theorem Ea(s:ByteArray):ii (iT s)=s.size:=rfl
def aiG(n:Nat):Obj->Obj
 | .cells c elem (lo,hi)=>.cells c elem (if lo==hi then(n,n+1)else(min lo n,max hi (n+1)))
 |o=>o
theorem ag.ZU{P:Program}{h:Heap}{b n:Nat}{c:Array Value}{e:TypeId}{K:Unit->Heap->Prop}(g:h[b]?=dB (.cells c e (0,0)))(k:n=c.size)(j:∀h',(∀x,x≠b->h'[x]?=h[x]?)->h'.size=h.size->(∃f,h'[b]?=dB (.cells c e f))->K () h'):
  ag P (freeze {block:=b,off:=n} 1) h K:=λw d=>by
 refine⟨(),w.freeze {block:=b,off:=n} 1,run_freeze P w _ _,⟨i0,i0,i0,qn _⟩,?_⟩;subst d;have a:(w.freeze {block:=b,off:=n} 1).heap=w.heap.modify b (aiG n):=rfl;refine j _ (λx i=>?_) ?_ ?_
 ·rw[a,wj,g0 λe=>i e.symm]
 ·rw[a];simp
 ·rw[a,wj,f9 i0,g];exact⟨_,i0⟩
section
variable {C:Ctx} {B:aB} {h h0:Heap} {As:List HP} {t e ts:Nat}
theorem afz(g:C.Ok)(A:∃i,C.T.get ts=dB i/\i.cT=.str)(w:∃i,C.T.get t=dB i/\i.cT=.slice e)(F:∃i,C.T.get e=dB i/\i.cT=.int .u8)(s:ByteArray){K:Sl->Heap->Prop}(G:∀r h',Sp h h' [tZ r 1 aE (iT s)]->K r h'):
  az C.P (convert ts t (.string s)) (.one (.sc .slc)) h K:=by
 obtain⟨M,y,u⟩:=A;obtain⟨L,E,v⟩:=w;obtain⟨i3,a3,H⟩:=F;have z:C.P.underlying ts=dB .string:=by have:=g.cT y;rw[u]at this;exact uW this
 have B:C.P.underlying t=dB (.slice e):=by have:=g.cT E;rw[v]at this;exact jk this
 have u3:C.P.underlying e=dB (.int .u8):=by have:=g.cT a3;rw[H]at this;exact IK this
 unfold az convert;refine ag.bind (ag.always (aJ z) ?_);refine ag.bind (ag.always (aJ B) ?_);refine ag.bind (ag.always (aJ u3) ?_);unfold Conv.stringToBytes;refine ag.bind (ag.NV ⟨λp=>(by cases p),λ_ q=>?_⟩);generalize j:Question.cut (Question.appendCap s.size 0 e) q=cc;have n:s.size<=cc:=by rw[<-j];simp only[Question.cut];omega
 unfold newRow;refine ag.bind (ag.bind (ag.rQ (ag.pure' ?_)));unfold markStringish;obtain⟨a,d⟩:∃a:Array Value,a=s.data.map (λb=>Value.int .u8 b.toNat)++Array.replicate (cc-s.size) (Value.int .u8 0):=⟨_,rfl⟩
 rw[<-d];refine ag.bind (ag.bind (ag.agD ?_));have l:shapeOf (h.push (.cells a e)) h.size=dB (e,a.size):=by unfold shapeOf;simp
 dsimp only;rw[l];refine ag.ZU (c:=a) (e:=e) i9 i0 λh' I o k=>?_;refine ag.pure' ⟨⟨dB ⟨h.size,0,none⟩,s.size,cc⟩,i0,G _ _ ?_⟩;obtain⟨f,k⟩:=k;refine .one ⟨by rw[o];simp,λb J _=>by rw[I b i4,Array.getElem?_push,g0 i4]⟩ ?_;refine⟨by rw[Ea],λi x m=>⟨h.size,0,i0,⟨qn _,by rw[o];simp⟩,?_,trivial⟩⟩;rw[add_zero];have D:i<s.data.size:=by have:=(List.getElem?_eq_some_iff.1 m).1;simpa[iT]using this
 unfold cellOf;simp only[k,Nat.mul_one,zQ,Option.isSome_none,ze,if_false];rw[d,Array.getElem?_append_left (by simpa using D),Array.getElem?_map];have:s.data[i]?=dB x:=by rw[<-m];simp[iT]
 rw[this];rfl
end
section
variable {C:Ctx} {t t2 e k:Nat} {z:be} {by_:Nat} {h h0:Heap} {B:aB} {As:List HP} {s:Sl} {l:bc}
theorem QL(v:C.Ok)(I:bL C.toCM t e 1 z by_)(Q:∃i,C.T.get t2=dB i/\i.cT=.str)(R:ii z=1)(G:0<by_/\by_<=128)
  (u:Own h e s 1 aE l) (x:ByteArray) (ab:ii l+x.size<=2^32) {ty:Nat} {K:Sl->Heap->Prop}
  (J:∀H h',Own h' e H 1 aE (l++iT x)->aV (λb=>¬s.on b) h h'->(∀b,H.on b->s.on b∨h.size<=b)->K H h'):
  az C.P (qt #[t,t2] ty #[.slice s.ptr s.len s.cap,.string x]) (.one (.sc .slc)) h K:=by
 obtain⟨i2,g1,g2⟩:=Q;have A:C.P.underlying t2=dB .string:=by have:=v.cT g1;rw[g2]at this;exact uW this
 obtain⟨F,w,x2,x3,Y,x4,V⟩:=I.info v;have k:∀y∈(iT x).flatMap aE,y.oneCell'=eL:=λy Z=>by
  obtain⟨b,_,O⟩:=zJ.1 Z;exact gH b y O
 have g:((x.extract 0 x.size).data.map λb=>Value.int .u8 (b.toNat:Int))=((iT x).flatMap aE).toArray:=by
  have e0:x.extract 0 x.size=x:=by apply ByteArray.ext;simp[ByteArray.data_extract]
  rw[e0];apply Array.ext';simp only[Array.toList_map,iT];exact List.map_eq_flatMap
 unfold az qt;simp only[zR,yf,qu];refine ag.bind (ag.always (aJ (I.under v)) ?_);refine ag.bind (ag.always (I.size v) ?_);refine ag.bind (ag.always (aJ A) ?_);refine ag.bind (ag.pure' ?_);simp only[ze,if_false,Bool.not_false,if_true];refine ag.bind (ag.pure' ?_);have n:=u.len;have r:∀y,ii (aE y)=1:=λ_=>rfl;have j:=cQ r l;have a:=cQ r (iT x);have ad:=Ea x;have m:∀{h:Heap} {K:Array Value->Heap->Prop},K ((iT x).flatMap aE).toArray h->ag C.P (wS 1 x.size (.string x)) h K:=λ{h K} hK=>by
  unfold wS;dsimp only;rw[g];exact ag.pure' hK
 by_cases d:s.len+x.size<=s.cap
 ·rw[f9 d];refine ag.bind (m ?_);rcases u.head with⟨p1,p2,p3⟩|⟨b,rest,p1,p2,p3,p4⟩
  ·rw[p1];have D:iT x=[]:=List.eq_nil_of_length_eq_zero i4;refine ag.pure' ⟨⟨none,s.len+x.size,s.cap⟩,i0,J _ _ ⟨?_,.inl ⟨i0,p2,by simp[p3,D]⟩⟩ (aV.refl _ _) ?_⟩
   ·simp;omega
   ·rintro M ⟨o,f⟩;cases f
  ·rw[p1];refine ag.bind ?_;rw[add_eq,zQ];have B:ii ((iT x).flatMap aE)<=ii rest:=by rw[a,p3];omega
   refine dp (e:=e) (pre:=l.flatMap aE) (old:=rest.take ((iT x).flatMap aE).length) (post:=rest.drop ((iT x).flatMap aE).length) ?_ ?_ ?_ ?_ ?_
   ·rw[qp,qA];exact p2
   ·rw[qU];exact wX B
   ·rw[j,n];omega
   ·intro c W;exact k c (by simpa using W)
   ·refine ag.pure' ⟨⟨dB ⟨b,0,none⟩,s.len+x.size,s.cap⟩,i0,J _ _ ⟨?_,.inr ⟨b,rest.drop ((iT x).flatMap aE).length,i0,?_,?_,d⟩⟩ ?_ ?_⟩
    ·simp;omega
    ·rw[fW p2,f9 rfl];simp
    ·rw[za,p3,a];show(s.cap-s.len)*1-ii (iT x)*1=(s.cap-(s.len+x.size))*1;omega
    ·exact aV.gC p2 (λhn=>hn ⟨0,p1⟩)
    ·rintro M ⟨o,f⟩;cases f;exact .inl ⟨0,p1⟩
 ·rw[g0 d];have p:Seq h (λ_=>True) s 1 aE l:=u.seq r λ_ _=>trivial;have N:=u.cap;refine ag.bind (ag.always (dg w) ?_);rw[g0 λX=>by rcases X.2 with h|h<;>first|exact h|(rw[x3]at h;omega)];refine ag.bind (ag.always (dg w) ?_);have ah:=WN (s.len+x.size) s.cap;rw[g0 (by
   have:Builtin.nextslicecap (s.len+x.size) s.cap*F.bytes<=(16*2^32+16*768)*128:=Nat.mul_le_mul i4 (by rw[x3];exact G.2);omega)]
  refine ag.bind (ag.NV ⟨λS=>(by cases S),λ_ U=>?_⟩);refine ag.bind (ag.always (dg w) ?_);refine ag.bind (ag.Km ?_);refine ag.bind (fH r p ?_);refine ag.bind (m ?_);have L:aH C.P (zeroValue e) Y:=(dg w).bind (by rw[x4];exact .pure);refine ag.bind (ag.always L ?_);rw[V,Gs];unfold newRow;refine ag.bind (ag.bind (ag.rQ (ag.pure' (ag.pure' ?_))));generalize E:Question.cut (Question.appendCap (s.len+x.size) s.cap e) U=cc;have q:s.len+x.size<=cc:=by rw[<-E];simp only[Question.cut];omega
  refine⟨⟨dB ⟨h.size,0,none⟩,s.len+x.size,cc⟩,i0,J _ _ ⟨?_,.inr ⟨h.size,iD z (cc-(s.len+x.size)),i0,?_,?_,q⟩⟩ (aV.push _ _ _) ?_⟩
  ·simp;omega
  ·simp
  ·rw[oA,R]
  ·rintro M ⟨o,f⟩;cases f;exact .inr (qn _)
theorem aa.ZV(u:C.Ok)(H:aa B h0 h As)(i:Nat)(D:As[i]?=dB (aq e s 1 aE l))(E:bL C.toCM t e 1 z by_)(p:∃i,C.T.get t2=dB i/\i.cT=.str)(q:ii z=1)(m:0<by_/\by_<=128)
  (x:ByteArray) (n:ii l+x.size<=2^32) {ty:Nat} {K:Sl->Heap->Prop} (F:∀f h',aa B h0 h' (As.set i (aq e f 1 aE (l++iT x)))->K f h'):
  az C.P (qt #[t,t2] ty #[.slice s.ptr s.len s.cap,.string x]) (.one (.sc .slc)) h K:=by
 obtain⟨y,v,c,r,a⟩:=H;have k:=a i _ D;refine QL u E p q m k.1 x n λf h' d j o=>F f h' ?_;refine aa.DU y v r a (j.mono λb g A w=>A (k.2 b w)) ⟨d,λb g=>⟨d.lt g,?_⟩⟩;rcases o b g with h1|h1
 ·exact .inl (k.2 b h1)
 ·exact .inr h1
end
end Go.Vc
namespace Wl
open Go
structure cb where
 name:ByteArray
 object:Int
 length:Int
 tries:aF
structure aI where
 seq:Int
 next:Int
 p:Int×Int×Int
 extra:Int
 drives:aF
 aG:List cb
def ain:cb:=⟨⟨#[]⟩,0,0,[]⟩
def pD(l:List cb)(i:Nat):cb:=l.getD i ain
theorem oG{l:List cb}{i:Nat}(h:i<ii l:=by omega):pD l i=l[i]:=by unfold pD;rw[qe,qd h];rfl
def eW(n a b:Int):Bool:=decide (a<=n)&&decide (n<=b)
def mN(c:UInt8):Bool:=(decide (97<=c.toNat)&&decide (c.toNat<=122))||(decide (48<=c.toNat)&&decide (c.toNat<=57))||decide (c.toNat=45)
def lP(s:ByteArray):Bool:=s.data.toList.all mN&&(decide (1<=s.size)&&decide (s.size<=12))
def fb(a b:ByteArray):Bool:=Op.bytesLess a.toList b.toList
def jE(l:aF)(a:Int)(i:Nat):Bool:=eW (l.getD i 0) 0 a&&(decide (i=0)||decide (l.getD (i-1) 0<l.getD i 0))
def pE(l:aF)(a:Int):Bool:=(qE l.length).all (jE l a)
def countP(p:Int×Int×Int)(n:Int):Int:=if bI p&&decide (0<n)then(n-1)/(p.1*p.2.2)+1 else 0
def gM(m:aI)(x:cb):Bool:=
 lP x.name&&(eW x.object 0 (m.next-1)&&(eW x.length 0 (m.p.1*m.p.2.2*8)&&(x.tries.all (eW · 0 15)&&decide ((x.tries.length:Int)=countP m.p x.length))))
def pF(m:aI)(i:Nat):Bool:=
 gM m (pD m.aG i)&&((decide (i=0)||fb (pD m.aG (i-1)).name (pD m.aG i).name)&&!(m.aG.take i).any λy=>decide (y.object=(pD m.aG i).object))
def kR(m:aI):Bool:=eW m.seq 1 2147483647&&(eW m.next 0 16777216&&(bI m.p&&eW m.extra 0 16))
def bO(m:aI):Bool:=kR m&&(pE m.drives 63&&(decide (ii m.aG<=12)&&(qE m.aG.length).all (pF m)))
theorem GG{p:Nat->Bool}{n i:Nat}(a:i<n)(h:p i=false):(qE n).all p=false:=List.all_eq_false.2 ⟨i,qG.2 a,by rw[h];simp⟩
theorem ub{p:Nat->Bool}{n:Nat}(h:∀i,i<n->p i=eL):(qE n).all p=eL:=List.all_eq_true.2 λi a=>h i (qG.1 a)
def bY(n:Int)(k:Nat):bc:=(qE k).map λi=>b8 (qX n (2^(8*(k-1-i))))
theorem cy(n:Int)(k:Nat):ii (bY n k)=k:=by simp[bY]
def jb(x:cb):bc:=b8 x.name.size::(x.name.data.toList++(bY x.object 3++(bY x.length 2++x.tries.map b8)))
def gz(m:aI):bc:=
 if bO m then bY m.seq 4++(bY m.next 4++([b8 m.p.1,b8 m.p.2.1,b8 m.p.2.2,b8 m.extra,b8 m.drives.length]++(m.drives.map b8++(b8 m.aG.length::m.aG.flatMap jb))))else[]
def jW(seq a c:Int)(b:bc):bc:=ey 2 (bY seq 4++([b8 a,b8 c,b8 b.length]++b))
def ij(b:bc):Nat:=(ii b+47)/48
def bo(m:aI):cP:=(qE (ij (gz m))).map λi:Nat=>jW m.seq i (ij (gz m)) (((gz m).drop (48*i)).take 48)
theorem ZW{m:aI}(h:bO m=eL):kR m=eL:=by unfold bO at h;simp at h;exact h.1
theorem SF{m:aI}(h:kR m=eL):(1<=m.seq/\m.seq<=2147483647)/\(0<=m.next/\m.next<=16777216)/\bI m.p=eL/\0<=m.extra/\m.extra<=16:=by unfold kR eW at h;simpa[and_assoc]using h
theorem Eb{m:aI}{c:bc}(h:c∈bo m):ii c=64:=by unfold bo at h;obtain⟨i,_,rfl⟩:=qw.1 h;exact nV i5 i5 l9
structure dD where
 object:Int
 block:Int
 id:Int
 p:Int×Int×Int
 seed:Int
 data:bc
theorem pG(n:Int):((b8 n).toNat:Int)=n%256:=by have h0:=yc n (show(256:Int)≠0 by decide);have a:=wh n (show(0:Int)<256 by decide);unfold b8;rw[UInt8.toNat_ofNat'];omega
def jc(r:dD):Bool:=(eW r.object 0 16777215&&(eW r.block 0 7&&bV r.id))&&(bI r.p&&decide ((r.data.length:Int)=r.p.2.2))
def iO(r:dD):bc:=bY r.object 3++(bY r.block 1++(bY r.id 2++([b8 r.p.1,b8 r.p.2.1,b8 r.p.2.2]++(bY r.seed 4++r.data))))
def dW(r:dD):bc:=if jc r then ey 1 (iO r)else[]
def dh(l:bc):Int:=l.foldl (λn x=>n*256+x.toNat) 0
def fh(c:bc):Option (Int×bc):=
 if c.length=64/\ey ((c.getD 3 0).toNat:Int) ((c.drop 4).take 55)=c then dB (((c.getD 3 0).toNat:Int),(c.drop 4).take 55)else none
def uF(x:bc):dD:=
 ⟨dh (x.take 3),dh ((x.drop 3).take 1),dh ((x.drop 4).take 2),(dh ((x.drop 6).take 1),dh ((x.drop 7).take 1),dh ((x.drop 8).take 1)),dh ((x.drop 9).take 4),(x.drop 13).take (dh ((x.drop 8).take 1)).toNat⟩
def dL(c:bc):Option dD:=
 match fh c with
 |some (k,x)=>if k=1/\bI (uF x).p=eL/\dW (uF x)=c then dB (uF x)else none
 |none=>none
theorem ZX(n:Int):bY n 1=[b8 n]:=by simp[bY]
theorem ZY(n:Int):bY n 2=[b8 (qX n (2^8)),b8 n]:=by simp[bY,zO]
theorem Vm(n:Int):bY n 3=[b8 (qX n (2^16)),b8 (qX n (2^8)),b8 n]:=by simp[bY,zO]
theorem LL(n:Int):bY n 4=[b8 (qX n (2^24)),b8 (qX n (2^16)),b8 (qX n (2^8)),b8 n]:=by simp[bY,zO]
theorem Ec{n:Int}(a:0<=n:=by omega)(b:n<256:=by omega):dh [b8 n]=n:=by simp only[dh,zy,wE,pG];omega
theorem fdiv_pow(n:Int)(k:Nat):qX n (2^k)=n/(2^k):=yN _ (Int.pow_nonneg i5)
theorem acM{n:Int}(a:0<=n)(b:n<65536):dh (bY n 2)=n:=by rw[ZY,fdiv_pow];simp only[dh,zy,wE,pG];omega
theorem XQ{n:Int}(a:0<=n)(b:n<16777216):dh (bY n 3)=n:=by rw[Vm,fdiv_pow,fdiv_pow];simp only[dh,zy,wE,pG];omega
theorem PD{n:Int}(a:0<=n)(b:n<4294967296):dh (bY n 4)=n:=by rw[LL,fdiv_pow,fdiv_pow,fdiv_pow];simp only[dh,zy,wE,pG];omega
theorem kC(r:dD):jc r=eL↔(0<=r.object/\r.object<=16777215)/\(0<=r.block/\r.block<=7)/\(0<=r.id/\r.id<=65535)/\bI r.p=eL/\(r.data.length:Int)=r.p.2.2:=by unfold jc eW bV;simp[and_assoc]
theorem oQ{r:dD}(h:jc r=eL):ii (iO r)=13+ii r.data/\r.data.length<=24:=by obtain⟨_,_,_,a,b⟩:=(kC r).1 h;have:=(ce r.p).1 a;refine⟨by unfold iO;simp[cy];omega,i4⟩
theorem SG{r:dD}(h:jc r=eL):ii (dW r)=64:=by have:=oQ h;unfold dW;rw[f9 h];exact nV i5 i5 i4
theorem Bx{k:Int}{a:bc}(d:1<=k:=by decide)(b:k<=255:=by decide)(h3:ii a<=55:=by omega):fh (ey k a)=dB (k,a++qh (55-ii a) 0):=by
 obtain⟨x,c⟩:∃x,x=a++qh (55-ii a) 0:=⟨_,rfl⟩
 have e:ii x=55:=by rw[c];simp;omega
 have f:ey k a=[87,115,1,b8 k]++(x++(lc (md (dI k a))++[165])):=by unfold ey;rw[f9 ⟨d,b,h3⟩];unfold dI;rw[c];simp[qp]
 have h:((ey k a).getD 3 0)=b8 k:=by rw[f];rfl
 have l:((ey k a).drop 4).take 55=x:=by rw[f];have:([87,115,1,b8 k]++(x++(lc (md (dI k a))++[165]))).drop 4=x++(lc (md (dI k a))++[165]):=rfl;rw[this,List.take_append_of_le_length i4,qi i4]
 have i:((b8 k).toNat:Int)=k:=by rw[pG];omega
 have g:dI k x=dI k a:=by unfold dI;rw[e,c];simp[qp]
 have j:ey k x=ey k a:=by unfold ey;rw[f9 ⟨d,b,i4⟩,f9 ⟨d,b,h3⟩,g]
 unfold fh;rw[h,l,i,f9 ⟨nV d b h3,j⟩,c]
theorem XR{r:dD}(h:jc r=eL)(x:0<=r.seed/\r.seed<4294967296)(z:bc):uF (iO r++z)=r:=by
 obtain⟨w,t,h3,q,A⟩:=(kC r).1 h;have y:=(ce r.p).1 q;have l1:=cy r.object 3;have l2:=cy r.id 2;have j:=cy r.seed 4;have e:iO r++z=bY r.object 3++([b8 r.block]++(bY r.id 2++([b8 r.p.1]++([b8 r.p.2.1]++([b8 r.p.2.2]++(bY r.seed 4++(r.data++z))))))):=by unfold iO;rw[ZX];simp[qp]
 have d:∀(u v:bc) (n:Nat),u.length=n->∀m,(u++v).drop (n+m)=v.drop m:=λu v n c m=>by
  rw[<-zE,<-c,List.drop_left]
 have a:∀(u v:bc) (n:Nat),u.length=n->(u++v).take n=u:=λu v n c=>by rw[<-c,vR]
 have o:(iO r++z).drop 3=[b8 r.block]++(bY r.id 2++([b8 r.p.1]++([b8 r.p.2.1]++([b8 r.p.2.2]++(bY r.seed 4++(r.data++z)))))):=by rw[e];exact d _ _ 3 l1 0
 have k:(iO r++z).drop 4=bY r.id 2++([b8 r.p.1]++([b8 r.p.2.1]++([b8 r.p.2.2]++(bY r.seed 4++(r.data++z))))):=by rw[show 4=3+1 from i0,<-zE,o];rfl
 have l:(iO r++z).drop 6=[b8 r.p.1]++([b8 r.p.2.1]++([b8 r.p.2.2]++(bY r.seed 4++(r.data++z)))):=by rw[show 6=4+2 from i0,<-zE,k];exact d _ _ 2 l2 0
 have f:(iO r++z).drop 7=[b8 r.p.2.1]++([b8 r.p.2.2]++(bY r.seed 4++(r.data++z))):=by rw[show 7=6+1 from i0,<-zE,l];rfl
 have i:(iO r++z).drop 8=[b8 r.p.2.2]++(bY r.seed 4++(r.data++z)):=by rw[show 8=7+1 from i0,<-zE,f];rfl
 have g:(iO r++z).drop 9=bY r.seed 4++(r.data++z):=by rw[show 9=8+1 from i0,<-zE,i];rfl
 have b:(iO r++z).drop 13=r.data++z:=by rw[show 13=9+4 from i0,<-zE,g];exact d _ _ 4 j 0
 have s:dh (((iO r++z).drop 8).take 1)=r.p.2.2:=by rw[i,a _ _ 1 i0,Ec]
 unfold uF;rw[s,o,k,l,f,g,b];rw[a [b8 r.block] _ 1 i0,a _ _ 2 l2,a [b8 r.p.1] _ 1 i0,a [b8 r.p.2.1] _ 1 i0,a _ _ 4 j];have t0:(iO r++z).take 3=bY r.object 3:=by rw[e];exact a _ _ 3 l1
 rw[t0,XQ i4 i4,Ec,acM i4 i4,Ec,Ec,PD i4 i4];have:r.p.2.2.toNat=r.data.length:=i4
 rw[this,vR]
theorem sW{r:dD}(h:jc r=eL)(b:0<=r.seed/\r.seed<4294967296):dL (dW r)=dB r:=by
 have c:=oQ h;have a:=((kC r).1 h).2.2.2.1;have e:dW r=ey 1 (iO r):=by unfold dW;rw[f9 h]
 unfold dL;rw[e,Bx];dsimp only;rw[XR h b,f9 ⟨i0,a,e⟩]
theorem XS{c:bc}{r:dD}(h:dL c=dB r):dW r=c/\jc r=eL/\bI r.p=eL:=by
 unfold dL at h;cases hc:fh c with
 |none=>rw[hc]at h;cases h
 |some kx=>
  rw[hc]at h;dsimp only at h;by_cases a:kx.1=1/\bI (uF kx.2).p=eL/\dW (uF kx.2)=c
  ·rw[f9 a]at h;injection h with h
   subst h;refine⟨a.2.2,?_,a.2.1⟩;by_cases d:jc (uF kx.2)=eL
   ·exact d
   ·exfalso;have b:=a.2.2;unfold dW at b;rw[g0 d]at b;unfold fh at hc;rw[<-b]at hc;simp at hc
  ·rw[g0 a]at h;cases h
end Wl
namespace Go.Vc
open Go
section
variable {C:Ctx} {h:Heap} {t e ts:Nat}
theorem JE:∀(l:bc) (b:ByteArray),l.foldl ByteArray.push b=⟨(b.data.toList++l).toArray⟩
 |[],b=>i9
 |x::l,b=>by
  rw[zy,JE l (b.push x)];simp[ByteArray.push]
theorem WT(j:C.Ok)(E:∃i,C.T.get t=dB i/\i.cT=.slice e)(H:∃i,C.T.get ts=dB i/\i.cT=.str)(M:∃i,C.T.get e=dB i/\i.cT=.int .u8){s:Sl}{l:bc}{p:aB}(w:Seq h p s 1 aE l){K:ByteArray->Heap->Prop}(z:K ⟨l.toArray⟩ h):
  az C.P (convert t ts (.slice s.ptr s.len s.cap)) (.one (.sc .str)) h K:=by
 obtain⟨Q,F,A⟩:=H;obtain⟨O,L,D⟩:=E;obtain⟨i3,a3,N⟩:=M;have G:C.P.underlying ts=dB .string:=by have:=j.cT F;rw[A]at this;exact uW this
 have J:C.P.underlying t=dB (.slice e):=by have:=j.cT L;rw[D]at this;exact jk this
 have u3:C.P.underlying e=dB (.int .u8):=by have:=j.cT a3;rw[N]at this;exact IK this
 unfold az convert;refine ag.bind (ag.always (aJ J) ?_);refine ag.bind (ag.always (aJ G) ?_);refine ag.bind (ag.always (aJ u3) ?_);unfold Conv.bytesToString;have g:=fH (P:=C.P) (f:=aE) (k:=1) (K:=λu h'=>u=(l.flatMap aE).toArray/\h'=h) (λ_=>rfl) w ⟨i0,i0⟩;cases hp:s.ptr with
 |none=>
  have:l=[]:=by
   cases l with
   |nil=>rfl
   |cons x r=>obtain⟨b,o,y,_⟩:=w.elem 0 x i9;rw[hp]at y;cases y
  subst this;exact ag.pure' ⟨⟨#[]⟩,i0,z⟩
 |some a=>
  rw[hp]at g;dsimp only;have d:ag C.P (loadCells a s.len) h λu h'=>u=(l.flatMap aE).toArray/\h'=h:=by
   have:wS 1 s.len (.slice (dB a) s.len s.cap)=loadCells a s.len:=by unfold wS;simp
   rw[<-this];exact g
  refine ag.bind (d.mono ?_);rintro _ _ ⟨rfl,rfl⟩;have q:∀(l:bc) (b:ByteArray),aH C.P (forIn (m:=Sem) (l.flatMap aE) b λc r=>match c with
    |xH xO n=>do pure (ForInStep.yield (r.push (yH n.toNat)))
    |_=>do let r<-stuck "bytesToString: byte expected";pure r) (l.foldl ByteArray.push b):=λl=>by
   induction l with
   |nil=>intro b;exact .pure
   |cons x l ih=>
    intro b;have B:(x::l).flatMap aE=Value.int .u8 x.toNat::l.flatMap aE:=rfl;rw[B,List.forIn_cons];have I:b.push (yH ((x.toNat:Int)).toNat)=b.push x:=by rw[Int.toNat_natCast];congr 1;apply UInt8.toNat_inj.1;simp
    refine aH.bind (v:=ForInStep.yield (b.push x)) (by dsimp only;rw[I];exact .pure) ?_;exact ih _
  refine ag.bind (ag.always (v:=l.foldl ByteArray.push ByteArray.empty) ?_ ?_)
  ·rw[List.forIn_toArray];exact q l _
  ·refine ag.pure' ⟨_,i0,?_⟩;rw[JE];exact z
end
end Go.Vc
namespace Wl
section
variable {α:Type} (le:α->α->Bool)
def iE(a b:α):Bool:=le a b&&le b a
def cz(l a:List α):Prop:=∀x,l.filter (iE le x)=a.filter (iE le x)
def Sd(l:List α):Prop:=l.Pairwise λa b=>le a b=eL
structure Ord:Prop where
 trans:∀a b c,le a b=eL->le b c=eL->le a c=eL
 total:∀a b,(le a b||le b a)=eL
variable {le}
theorem Ord.GH(o:Ord le){a b:α}(h:¬le a b=eL):le b a=eL:=by
 have:=o.total a b;cases h1:le a b with
 |true=>exact absurd h1 h
 |false=>rw[h1]at this;simpa using this
theorem Ord.refl(o:Ord le)(a:α):le a a=eL:=by have:=o.total a a;simpa using this
theorem cz.refl(l:List α):cz le l l:=λ_=>rfl
theorem cz.trans{l1 l2 a:List α}(h:cz le l1 l2)(k:cz le l2 a):cz le l1 a:=λx=>(h x).trans (k x)
theorem cz.symm{l1 l2:List α}(h:cz le l1 l2):cz le l2 l1:=λx=>(h x).symm
theorem cz.app{a b c d:List α}(h:cz le a b)(k:cz le c d):cz le (a++c) (b++d):=λx=>by
 rw[zk,zk,h x,k x]
theorem cz.mem(o:Ord le){l a:List α}(h:cz le l a){y:α}(c:y∈a):y∈l:=by have b:y∈a.filter (iE le y):=qI.2 ⟨c,m6⟩;rw[<-h y]at b;exact(qI.1 b).1
theorem cz.ZZ(o:Ord le){u v:List α}(h:∀x∈u,∀y∈v,¬le x y=eL):cz le (u++v) (v++u):=λz=>by
 rw[zk,zk];by_cases f:u.filter (iE le z)=[]
 ·rw[f];simp
 ·by_cases e:v.filter (iE le z)=[]
  ·rw[e];simp
  ·exfalso;obtain⟨x,i⟩:=vz _ f;obtain⟨y,g⟩:=vz _ e;obtain⟨d,b⟩:=qI.1 i;obtain⟨c,a⟩:=qI.1 g;unfold iE at b a;simp only[qB]at b a;exact h x d y c (o.trans _ _ _ b.2 a.1)
theorem cz.SH(o:Ord le){l:List α}(h:cz le [] l):l=[]:=by
 cases l with
 |nil=>rfl
 |cons a l=>exact absurd (cz.mem o h (zb ..)) i9
theorem PE(o:Ord le):∀(l c:List α),Sd le l->Sd le c->cz le l c->l=c
 |[],c,_,_,h=>(cz.SH o h).symm
 |a::l,[],_,_,h=>absurd (cz.SH o h.symm) i9
 |a::l,b::c,s,s',h=>by
  have d:a=b:=by
   have i:le a b=eL:=by
    have:=cz.mem o h (y:=b) (zb ..);rcases zd.1 this with e|e
    ·rw[e];exact o.refl _
    ·exact(zF.1 s).1 _ e
   have f:le b a=eL:=by
    have:=cz.mem o h.symm (y:=a) (zb ..);rcases zd.1 this with e|e
    ·rw[e];exact o.refl _
    ·exact(zF.1 s').1 _ e
   have h3:=h a;have g:iE le a a=eL:=m6
   have j:iE le a b=eL:=by unfold iE;rw[i,f];rfl
   rw[vf g,vf j]at h3;injection h3
  subst d;rw[PE o l c (zF.1 s).2 (zF.1 s').2 λx=>by
   have h3:=h x;rw[zp,zp]at h3;split at h3
   ·injection h3
   ·exact h3]
theorem GI(o:Ord le)(l:List α):Sd le (l.mergeSort le)/\cz le l (l.mergeSort le):=by
 refine⟨List.pairwise_mergeSort o.trans o.total l,λx=>?_⟩;have f:(l.filter (iE le x)).Pairwise λa b=>le a b=eL:=by rw[List.pairwise_filter];refine List.Pairwise.imp ?_ (List.pairwise_of_forall (l:=l) (R:=λ_ _=>True) λ_ _=>trivial);intro a b _ e d;unfold iE at e d;simp only[qB]at e d;exact o.trans _ _ _ e.2 d.1
 have g:=List.sublist_mergeSort o.trans o.total f List.filter_sublist;have c:=g.filter (iE le x);rw[List.filter_filter]at c;simp only[Bool.and_self]at c;exact c.eq_of_length ((List.mergeSort_perm l le).symm.filter _).length_eq
theorem aeB(o:Ord le){l a:List α}(s:Sd le a)(h:cz le l a):a=l.mergeSort le:=by obtain⟨c,b⟩:=GI o l;exact PE o _ _ s c (h.symm.trans b)
theorem Sd.app(o:Ord le){u v:List α}(b:Sd le u)(a:Sd le v)(h:∀x∈u,∀y∈v,le x y=eL):Sd le (u++v):=yh.2 ⟨b,a,h⟩
theorem Sd.left{u v:List α}(h:Sd le (u++v)):Sd le u:=(yh.1 h).1
theorem Sd.right{u v:List α}(h:Sd le (u++v)):Sd le v:=(yh.1 h).2.1
theorem Sd.IV{u v:List α}(h:Sd le (u++v)):∀x∈u,∀y∈v,le x y=eL:=(yh.1 h).2.2
theorem Sd.at_(o:Ord le){l:List α}(h:Sd le l){i j:Nat}(a:i<=j)(b:j<ii l):le (l[i]'(by omega)) l[j]=eL:=by
 by_cases e:i=j
 ·subst e;exact o.refl _
 ·exact List.pairwise_iff_getElem.1 h i j i4 b i4
theorem aaa(o:Ord le){l1 l2 b a g f:List α}(k:Sd le (l1++l2))(m:Sd le (b++a))(h:∀x∈l1,∀y∈a,le x y=eL)(e:∀x∈l2,∀y∈b,¬le x y=eL)
  (i:cz le (l1++b) g) (l:Sd le g) (j:cz le (l2++a) f) (p:Sd le f):Sd le (g++f)/\cz le ((l1++l2)++(b++a)) (g++f):=by
 constructor
 ·refine Sd.app o l p λx c y d=>?_;rcases qz.1 (cz.mem o i c)with c|c<;>rcases qz.1 (cz.mem o j d)with d|d
  ·exact k.IV x c y d
  ·exact h x c y d
  ·exact o.GH (e y d x c)
  ·exact m.IV x c y d
 ·have n:cz le ((l1++l2)++(b++a)) ((l1++b)++(l2++a)):=by rw[show(l1++l2)++(b++a)=l1++((l2++b)++a)by simp,show(l1++b)++(l2++a)=l1++((b++l2)++a)by simp];exact(cz.refl _).app ((cz.ZZ o e).app (cz.refl _))
  exact n.trans (i.app j)
end
section
variable {α:Type} {le:α->α->Bool}
theorem uZ(o:Ord le):∀{l j:List α},cz le l j->ii l=ii j
 |[],j,h=>by rw[cz.SH o h]
 |a::l,j,h=>by
  have r:=cz.mem o h.symm (y:=a) (zb ..);obtain⟨u,v,z⟩:=List.append_of_mem r;have s:∃(u:List α) (b:α) (v:List α),j=u++b::v/\(∀x∈u,iE le a x=false)/\iE le a b=eL:=by
   have m:j.filter (iE le a)≠[]:=λF=>by
    have:a∈j.filter (iE le a):=qI.2 ⟨r,m6⟩;rw[F]at this;cases this
   clear z u v r h
   induction j with
   |nil=>exact absurd i0 m
   |cons c j ih=>
    by_cases w:iE le a c=eL
    ·exact⟨[],c,j,i0,i9,w⟩
    ·rw[List.filter_cons_of_neg w]at m;obtain⟨u,b,v,e,f,g⟩:=ih m;refine⟨c::u,b,v,n8,λx i=>?_,g⟩;rcases zd.1 i with rfl|i
     ·simpa using w
     ·exact f x i
  obtain⟨u,b,v,rfl,A,B⟩:=s;have E:iE le a a=eL:=m6
  have n:=h a;have p:u.filter (iE le a)=[]:=wZ.2 λx i=>by rw[A x i];simp
  rw[vf E,zk,p,wm,vf B]at n;have q:a=b:=by injection n
  subst q;have D:cz le l (u++v):=λx=>by
   have i:=h x;rw[zp,zk,zp]at i;rw[zk];by_cases d:iE le x a=eL
   ·rw[f9 d,f9 d]at i;have t:u.filter (iE le x)=[]:=wZ.2 λy G k=>by
     have:=A y G;unfold iE at this d k;simp only[qB]at d k;rw[o.trans _ _ _ d.2 k.1,o.trans _ _ _ k.2 d.1]at this;cases this
    rw[t,wm]at i⊢;injection i
   ·rw[g0 d,g0 d]at i;exact i
  rw[List.length_cons,uZ o D];simp;omega
end
end Wl
