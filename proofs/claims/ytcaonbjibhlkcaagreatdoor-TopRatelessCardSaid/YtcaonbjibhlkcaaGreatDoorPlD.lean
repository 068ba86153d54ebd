/- Lemmas for the proof of the law; no condition. -/
import Derived.Test.YtcaonbjibhlkcaaGreatDoorPlB
set_option linter.unusedVariables false
set_option linter.unusedSimpArgs false
open Go.IntKind renaming bits -> qk, i64 -> xq, signed -> yC, u32 -> xt, u64 -> xu, u8 -> xr, wrap -> qc
open Int renaming emod_lt_of_pos -> w7, emod_nonneg -> yJ, fdiv -> qQ, fdiv_eq_ediv_of_nonneg -> yg, tmod -> zZ
open List renaming append_assoc -> qo, drop_drop -> zB, drop_of_length_le -> zh, exists_mem_of_ne_nil -> vm, ext_getElem? -> zx, filter_append -> zg, filter_cons -> zo, filter_cons_of_pos -> yV, filter_eq_nil_iff -> wP, find?_eq_none -> w6, flatMap_append -> ze, foldl_cons -> zD, foldl_nil -> wx, getD_eq_getElem?_getD -> qe, getElem?_cons_succ -> qz, getElem?_cons_zero -> w9, getElem?_eq_getElem -> qd, getElem?_mapIdx -> vg, getElem?_toArray -> zL, getElem_mem -> qh, length_append -> qw, length_drop -> qZ, length_take -> qM, mem_append -> qF, mem_cons -> q8, mem_cons_self -> q0, mem_filter -> qJ, mem_flatMap -> zQ, mem_map -> qC, mem_or_eq_of_mem_set -> wQ, mem_range -> qI, nil_append -> wh, pairwise_append -> wL, pairwise_cons -> zM, range -> qy, range_eq_range' -> yO, range_succ -> zt, replicate -> qg, take_append_drop -> qx, take_left -> vZ, take_of_length_le -> qi
open BitVec renaming ofInt -> qu, ofInt_natCast -> ya, ofNat_toNat -> vu, setWidth_eq -> vw
open Nat renaming le_refl -> ql, min_eq_left -> wO, zero_add -> zX
open Option renaming map_some -> qR
open Go.Builtin renaming append_ -> qq, copy_ -> wz, firstCells -> wK
open UInt8 renaming ofNat -> zH
open Array renaming getElem?_modify -> wX
open Bool renaming and_eq_true -> qA, false_eq_true -> zf
open Go.Value renaming int -> xk
namespace Wl
def bA(p:Int×Int×Int):Bool:=decide (p.1>=1)&&(decide (p.1<=16)&&(decide (p.2.1>=1)&&(decide (p.2.1<=4)&&(decide (p.2.2>=1)&&decide (p.2.2<=24)))))
theorem bC(p:Int×Int×Int):bA p=true↔(1<=p.1/\p.1<=16)/\(1<=p.2.1/\p.2.1<=4)/\1<=p.2.2/\p.2.2<=24:=by
 simp[bA,and_assoc]
def bn(p:Int×Int×Int):Int:=if bA p then p.1+p.2.1 else 0
open Go
def oP(s:Int):Int:=qc xu (qc xu (s*(6364136223846793005:Int))+(1442695040888963407:Int))
def told(s:Int):Int:=qc xt (qQ (oP s) (2^min (32:Int).toNat (qk xu)))
def iw(s n:Int):Int:=qc xq (zZ (qc xu (told s)) (qc xu n))
theorem wrap_u64(x:Int):qc xu x=x%18446744073709551616:=rfl
theorem nN(s n:Int)(e:0<n:=by omega)(f:n<=2^62:=by omega):0<=iw s n/\iw s n<n:=by
 unfold iw;have d:qc xu n=n:=by rw[wrap_u64];omega
 rw[d];have a:0<=qc xu (told s):=by rw[wrap_u64];omega
 have b:=Int.tmod_lt_of_pos (qc xu (told s)) e;have c:0<=zZ (qc xu (told s)) n:=Int.tmod_nonneg n a;rw[Go.Vc.aj _];exact⟨c,b⟩
def dN(l:aB)(i:Nat):Int:=l.getD i 0
def ik(l:aB)(i j:Nat):aB:=(l.set i (dN l j)).set j (dN l i)
theorem pX(l:aB)(i j:Nat):(ik l i j).length=l.length:=by simp[ik]
def dm(n:Nat)(s:Int)(l:aB):Nat->Int×aB
 |0=>(s,l)
 |k+1=>(oP (dm n s l k).1,ik (dm n s l k).2 k (k+(iw (dm n s l k).1 ((n-k:Nat):Int)).toNat))
theorem pY(n:Nat)(s:Int)(l:aB):∀k,(dm n s l k).2.length=l.length
 |0=>rfl
 |k+1=>by rw[dm,pX,pY n s l k]
theorem Iz{l:aB}{i:Nat}(h:i<l.length):dN l i∈l:=by
 rw[dN,qe,qd h];exact qh h
theorem aan{l:aB}{i j:Nat}(c:i<l.length)(b:j<l.length){x:Int}(a:x∈ik l i j):x∈l:=by
 rcases wQ a with h|h
 ·rcases wQ h with h|h
  ·exact h
  ·rw[h];exact Iz b
 ·rw[h];exact Iz c
def upto(n:Nat):aB:=(qy n).map fun i:Nat=>(i:Int)
theorem fB(n:Nat):(upto n).length=n:=by simp[upto]
theorem IA(n:Nat)(s:Int):∀k,k<=n->∀x∈(dm n s (upto n) k).2,0<=x/\x<n
 |0,_,x,hx=>by
  simp only[dm,upto,qC,qI]at hx;obtain⟨i,l,rfl⟩:=hx;omega
 |k+1,hk,x,hx=>by
  have e:k<n->n-k<=2^62->k+(iw (dm n s (upto n) k).1 ((n-k:Nat):Int)).toNat<n:=fun m j=>by
   have:=nN (dm n s (upto n) k).1 ((n-k:Nat):Int);omega
  have d:=pY n s (upto n) k;rw[fB]at d;by_cases b:n-k<=2^62
  ·refine IA n s k (by omega) x (aan (by omega) ?_ hx);have:=e (by omega) b;omega
  ·--beyond any size:what is set is 0 or a member
   have c:∀y∈ik (dm n s (upto n) k).2 k (k+(iw (dm n s (upto n) k).1 ((n-k:Nat):Int)).toNat),y∈(dm n s (upto n) k).2∨y=0:=by
    intro y f;have g:∀i,dN (dm n s (upto n) k).2 i∈(dm n s (upto n) k).2∨dN (dm n s (upto n) k).2 i=0:=fun i=>by
     by_cases h:i<(dm n s (upto n) k).2.length
     ·exact .inl (Iz h)
     ·right;simp only[dN,qe];rw[List.getElem?_eq_none (by omega)];rfl
    rcases wQ f with h|h
    ·rcases wQ h with h|h
     ·exact .inl h
     ·rw[h];exact g _
    ·rw[h];exact g _
   rcases c x hx with h|h
   ·exact IA n s k (by omega) x h
   ·subst h;omega
def jl(l:aB):aB:=l.mergeSort fun x y=>decide (x<=y)
theorem MW(l:aB):(jl l).length=l.length:=List.length_mergeSort l
theorem MX(l:aB)(x:Int):x∈jl l↔x∈l:=List.mem_mergeSort
def Ae(s:Int)(n k:Nat):aB:=jl ((dm n s (upto n) k).2.take k)
theorem aao{s:Int}{n k:Nat}(b:k<=n){x:Int}(a:x∈Ae s n k):0<=x/\x<n:=
 IA n s k b x (List.mem_of_mem_take ((MX _ _).1 a))
theorem aap(s:Int)(n k:Nat)(a:k<=n):(Ae s n k).length=k:=by
 rw[Ae,MW,qM,pY,fB];omega
def bW(l:Nat):Nat:=if l<=1 then l else if l<=4 then 2 else if l<=9 then 3 else if l<=16 then 4 else 5
def ry(r:Nat):Nat:=if r=0 then 0 else if r=1 then 1 else if r<=3 then 2 else 3
def kh(l k:Nat):Nat:=
 (if k>1 then 1048576/(k*(k-1))else 1048576/l)+
  (if k<l/bW l then 1048576*bW l/(l*k)else if k=l/bW l then 1048576*bW l*ry (bW l)/l else 0)
def iA(l:Nat):Nat->Nat
 |0=>0
 |k+1=>iA l k+kh l (k+1)
def eT(l:Nat):aB:=(qy l).map fun k=>((iA l (k+1):Nat):Int)
theorem fu(l:Nat):(eT l).length=l:=by simp[eT]
def LB(t:aB)(x:Int):Nat:=(t.findIdx fun y=>decide (y>x))+1
theorem CE:∀l,l<=20->∀k,k<=20->kh l k<=2^30:=by decide+kernel
theorem um(l:Nat)(a:l<=20):∀k,k<=20->iA l k<=k*2^30
 |0,_=>by simp[iA]
 |k+1,hk=>by
  have:=um l a k (by omega);have:=CE l a (k+1) hk;rw[iA];omega
theorem IB:∀l,l<=20->1<=l->0<iA l l:=by decide+kernel
theorem CF(l:Nat)(h:1<=l):(eT l).getLast?=some ((iA l l:Nat):Int):=by
 obtain⟨k,rfl⟩:∃k,l=k+1:=⟨l-1,by omega⟩
 simp[eT,zt]
def rL(seed id:Int):Int:=qc xu (qc xt ((qu (qk xt) seed^^^(qu (qk xt) (qc xt ((qc xt id)*(2654435761:Int))))).toNat:Nat))
def tE(s:Int)(n:Nat):Nat:=LB (eT n) (iw s (iA n n))
theorem pZ(s:Int)(n:Nat)(b:1<=n:=by omega)(a:n<=20:=by omega):tE s n<=n:=by
 unfold tE LB;have e:=IB n a b;have c:=um n a n a;have d:=nN s (iA n n);have:=List.findIdx_lt_length_of_exists (p:=fun y=>decide (y>iw s (iA n n))) (xs:=eT n) ⟨_,List.mem_of_getLast? (CF n b),by simpa using d.2⟩;rw[fu]at this;omega
def bp(id:Int):Bool:=decide (0<=id)&&decide (id<=65535)
def cA(n:Nat)(seed id:Int):aB:=Ae (oP (oP (rL seed id))) n (tE (oP (rL seed id)) n)
theorem kB{n:Nat}(c:1<=n)(b:n<=20){seed id x:Int}(a:x∈cA n seed id):0<=x/\x<n:=aao (pZ _ n c b) a
theorem rN{n:Nat}(b:1<=n)(a:n<=20)(seed id:Int):(cA n seed id).length<=n:=by
 rw[cA,aap _ _ _ (pZ _ n b a)];exact pZ _ n b a
def dL(n:Nat)(l:aB):aU:=l.foldl (fun r i=>r.set i.toNat 1) (qg n 0)
theorem nO(n:Nat)(l:aB):(dL n l).length=n:=by
 have:∀(l:aB) (r:aU),(l.foldl (fun r i=>r.set i.toNat 1) r).length=r.length:=by
  intro l
  induction l with
  |nil=>intro r;rfl
  |cons a t ih=>intro r;rw[zD,ih];simp
 rw[dL,this];simp
def kL(n:Nat)(seed id:Int):aU:=dL n (cA n seed id)
theorem PO(n:Nat)(seed id:Int):(kL n seed id).length=n:=nO _ _
def fj(K H h:Nat):aU:=(qy K).map (fun j=>Gf.pw ((h+1)*(j+1)%255))++(qy H).map fun i=>if i=h then 1 else 0
def bc(K H:Nat):cv:=(qy H).map (fj K H)
theorem oQ(K H h:Nat):(fj K H h).length=K+H:=by simp[fj]
def cG(p:Int×Int×Int)(seed:Int)(ids:aB):cv:=
 if bA p then bc p.1.toNat p.2.1.toNat++(ids.filter bp).map (kL (bn p).toNat seed)else[]
theorem uF{α:Type}{f:α->Bool}{l:List α}{k:Nat}(a:k<l.length):(l.take (k+1)).filter f=if f l[k]then(l.take k).filter f++[l[k]]else(l.take k).filter f:=by
 rw[List.take_succ_eq_append_getElem a,zg];by_cases h:f l[k]=true<;>simp[h]
abbrev Row:=aU
abbrev aQ:=List Row
def scaleB(c:UInt8)(l:Row):Row:=l.map (Gf.mul c)
def ck(c:UInt8)(a to:Row):Row:=List.zipWith (fun x y=>y^^^Gf.mul c x) a to
def aE(r:Row)(ba:Nat):UInt8:=r.getD ba 0
def av(m:aQ)(i:Nat):Row:=m.getD i []
def gq(m:aQ)(a ba:Nat):Option Nat:=(qy m.length).find? fun i=>decide (a<=i)&&(aE (av m i) ba !=0)
def fM(m:aQ)(i j:Nat):aQ:=(m.set i (av m j)).set j (av m i)
def cI(a ba:Nat)(m:aQ)(k:Nat):aQ:=m.mapIdx fun i r=>if i<k/\i≠a then ck (aE r ba) (av m a) r else r
def il(a ba:Nat)(m:aQ):aQ:=m.set a (scaleB (Gf.inv (aE (av m a) ba)) (av m a))
def fY(s:Nat×aQ)(ba:Nat):Nat×aQ:=
 match gq s.2 s.1 ba with
 |none=>s
 |some i=>(s.1+1,cI s.1 ba (il s.1 ba (fM s.2 s.1 i)) s.2.length)
def bu(m:aQ):Nat->Nat×aQ
 |0=>(0,m)
 |c+1=>fY (bu m c) c
def dn(m:aQ):Nat:=(av m 0).length
def bT(m:aQ):Nat:=(bu m (dn m)).1
def aY(n:Nat)(m:aQ):Prop:=∀r∈m,r.length=n
theorem rO(c:UInt8)(l:Row):(scaleB c l).length=l.length:=by simp[scaleB]
theorem bK{c:UInt8}{a t:Row}(h:a.length=t.length):(ck c a t).length=t.length:=by simp[ck,h]
theorem bj{m:aQ}{i:Nat}(h:i<m.length):av m i=m[i]:=by rw[av,qe,qd h];rfl
theorem bP{n:Nat}{m:aQ}(h:aY n m){i:Nat}(a:i<m.length:=by omega):(av m i).length=n:=by rw[bj a];exact h _ (qh a)
theorem IC{n:Nat}{m:aQ}(h:aY n m){i:Nat}{r:Row}(b:r.length=n):aY n (m.set i r):=fun x a=>by
 rcases wQ a with h1|h1
 ·exact h x h1
 ·rw[h1];exact b
theorem JH{P:Nat->Bool}{n:Nat}(h:∀j,j<n->P j=false):(qy n).find? P=none:=by
 rw[w6];intro x a;rw[qI]at a;simp[h x a]
theorem Vj{P:Nat->Bool}{n k:Nat}(f:k<n)(h:∀j,j<k->P j=false)(e:P k=true):(qy n).find? P=some k:=by
 rw[List.find?_eq_some_iff_append];refine⟨e,qy k,List.range' (k+1) (n-k-1),?_,fun a b=>?_⟩
 ·rw[yO,yO];have d:n=k+(n-k):=by omega
  have c:n-k=(n-k-1)+1:=by omega
  conv=>lhs;rw[d,<-List.range'_append_1 (s:=0) (m:=k) (n:=n-k)]
  rw[zX]
  conv=>lhs;rw[c,List.range'_succ]
 ·rw[qI]at b;simp[h a b]
theorem mZ{m:aQ}{a ba i:Nat}(h:gq m a ba=some i):a<=i/\i<m.length/\aE (av m i) ba≠0:=by
 have b:=List.find?_some h;have c:=List.mem_of_find?_eq_some h;simp at b c;exact⟨b.1,c,b.2⟩
theorem SB{m:aQ}{a ba:Nat}(h:gq m a ba=none):∀i,a<=i->i<m.length->aE (av m i) ba=0:=fun i c b=>by
 have:=w6.1 h i (qI.2 b);simpa[c]using this
theorem jz(m:aQ)(i j:Nat):(fM m i j).length=m.length:=by simp[fM]
theorem Af{n:Nat}{m:aQ}(h:aY n m){i j:Nat}(b:i<m.length)(a:j<m.length):aY n (fM m i j):=IC (IC h (bP h a)) (bP h b)
theorem lP(t c:Nat)(m:aQ):(il t c m).length=m.length:=by simp[il]
theorem rP{n:Nat}{m:aQ}(h:aY n m){t c:Nat}(a:t<m.length):aY n (il t c m):=IC h (by rw[rO];exact bP h a)
theorem lQ(t c:Nat)(m:aQ)(k:Nat):(cI t c m k).length=m.length:=by simp[cI]
theorem Ag{n:Nat}{m:aQ}(h:aY n m){t c k:Nat}(d:t<m.length):aY n (cI t c m k):=fun x b=>by
 obtain⟨i,e,rfl⟩:=List.mem_mapIdx.1 b;have a:=h _ (qh e);split
 ·rw[bK (by rw[bP h d,a])];exact a
 ·exact a
theorem MY(t c:Nat)(m:aQ):cI t c m 0=m:=by
 apply zx;intro i;simp[cI,vg]
theorem lR{t c k:Nat}{m:aQ}{i:Nat}(a:i<m.length):av (cI t c m k) i=if i<k/\i≠t then ck (aE (av m i) c) (av m t) (av m i)else av m i:=by
 rw[bj (by rw[lQ];exact a),bj a];simp[cI]
theorem EZ{t c k:Nat}{m:aQ}(b:k<m.length)(d:k≠t):cI t c m (k+1)=(cI t c m k).set k (ck (aE (av m k) c) (av m t) (av m k)):=by
 apply zx;intro i;simp only[cI,List.getElem?_set,vg,List.length_mapIdx];by_cases a:k=i
 ·subst a;simp only[if_true,b,qd b,qR];rw[if_pos ⟨by omega,d⟩,bj b]
 ·rw[if_neg a];congr 1;funext r;by_cases h:i<k/\i≠t
  ·rw[if_pos h,if_pos ⟨by omega,h.2⟩]
  ·rw[if_neg h,if_neg (fun e=>h ⟨by omega,e.2⟩)]
theorem MZ{t c:Nat}{m:aQ}:cI t c m (t+1)=cI t c m t:=by
 apply zx;intro i;simp only[cI,vg];congr 1;funext r;by_cases h:i<t/\i≠t
 ·rw[if_pos h,if_pos ⟨by omega,h.2⟩]
 ·rw[if_neg h,if_neg (fun a=>h ⟨by omega,a.2⟩)]
theorem Xz{n:Nat}{s:Nat×aQ}(h:aY n s.2)(ba:Nat):aY n (fY s ba).2/\(fY s ba).2.length=s.2.length:=by
 unfold fY;cases hb:gq s.2 s.1 ba with
 |none=>exact⟨h,rfl⟩
 |some i=>
  have a:=mZ hb;dsimp only;refine⟨Ag (rP (Af h (by omega) a.2.1) (by rw[jz];omega)) (by rw[lP,jz];omega),by rw[lQ,lP,jz]⟩
theorem fK{n:Nat}{m:aQ}(h:aY n m):∀c,aY n (bu m c).2/\(bu m c).2.length=m.length
 |0=>⟨h,rfl⟩
 |c+1=>by
  have:=fK h c;have a:=Xz this.1 c;rw[bu];exact⟨a.1,by rw[a.2,this.2]⟩
theorem aaq{s:Nat×aQ}(h:s.1<=s.2.length)(ba:Nat):(fY s ba).1<=(fY s ba).2.length:=by
 unfold fY;cases hb:gq s.2 s.1 ba with
 |none=>exact h
 |some i=>
  have a:=mZ hb;dsimp only;rw[lQ,lP,jz];omega
theorem oR(m:aQ):∀c,(bu m c).1<=(bu m c).2.length
 |0=>by simp[bu]
 |c+1=>aaq (oR m c) c
end Wl
namespace Go.Vc
open Go
section
variable {C:Ctx} {t t2 ty e k:Nat} {z:aV} {by_:Nat} {α:Type} {h h0:Heap} {p B:aA} {s v:Sl} {f:α->aV} {l l2:List α} {As:List HP}
theorem Own.PP(N:C.Ok)(Q:bN C.toBq t e k z by_)(D:∀x,(f x).length=k)(r:Own h e s k f l)(O:Seq h p v k f l2)(w:∀x,∀c∈f x,c.oneCell'=true)(j:Nat)(T:j<=l.length){u:aP}{M W:Nat}(i:u=if s.cap=j then s.ptr else s.ptr.map (·.add (j*k)))(o:M=s.len-j){K:Int->Heap->Prop}
  (F:∀n h',Own h' e s k f (l.take j++(l2.take (l.length-j)++l.drop (j+l2.length)))->aR (fun b=>¬s.on b) h h'->K n h'):
  aw C.P (wz #[t,t2] ty #[.slice u M W,.slice v.ptr v.len v.cap]) (.one (.sc (.int .i64))) h K:=by
 unfold aw wz;simp only[zL,w9,qz];refine ae.bind (ae.always (aI (Q.under N)) ?_);refine ae.bind (ae.pure' ?_);refine ae.bind (ae.always (Q.size N) ?_);have g:=r.len;have q:=O.len;have R:=r.cap;obtain⟨m,E⟩:∃m,m=Nat.min v.len M:=⟨_,rfl⟩
 rw[<-E];have H:m<=l2.length:=by rw[E,<-q];exact Nat.min_le_left _ _
 have A:m<=l.length-j:=by rw[E,<-g,o];exact Nat.min_le_right _ _
 have U:m=min l2.length (l.length-j):=by rw[E,o,g,q]
 have G:=O.take m H;have S:l2.take (l.length-j)++l.drop (j+l2.length)=l2.take m++l.drop (j+m):=by
  rcases Nat.le_total l2.length (l.length-j)with hh|hh
  ·rw[qi hh,show m=l2.length by omega,List.take_length]
  ·rw[show m=l.length-j by omega,zh (show l.length<=j+l2.length by omega),zh (by omega)]
 rw[S]at F;have J:wK k m (.slice v.ptr v.len v.cap)=wK k m (.slice v.ptr m v.cap):=by cases v.ptr<;>rfl
 rw[J];refine ae.bind (fq (v:=⟨v.ptr,m,v.cap⟩) D G ?_);have d:m=0->l.take j++(l2.take m++l.drop (j+m))=l:=fun e=>by rw[e];simp
 rcases r.head with⟨h1,h2,h3⟩|⟨b,rest,h1,h2,h3,h4⟩
 ·have a:u=none:=by rw[i,h1];split<;>rfl
  rw[a];subst h3;have:m=0:=by simp at A;exact A
  refine ae.pure' ⟨_,rfl,F _ h ?_ (aR.refl _ _)⟩;rw[d this];exact r
 ·by_cases y:s.cap=j
  ·have a:u=some ⟨b,0,none⟩:=by rw[i,if_pos y,h1]
   rw[a];have B:m=0:=by omega
   refine ae.bind ?_;rw[B];simp only[List.take_zero,List.flatMap_nil];exact ae.pure' (ae.pure' ⟨_,rfl,F _ h (by rw[d B];exact r) (aR.refl _ _)⟩)
  ·have a:u=some ⟨b,0+j*k,none⟩:=by rw[i,if_neg y,h1];simp only[qR];rw[add_eq]
   rw[a];refine ae.bind ?_;have L:l.flatMap f++rest=(l.take j).flatMap f++((l.drop j).take m).flatMap f++((l.drop (j+m)).flatMap f++rest):=by
    rw[<-qo,<-ze,<-ze,<-zB,qo (List.take j l),qx,qx]
   rw[L]at h2;refine db (e:=e) (pre:=(l.take j).flatMap f) (old:=((l.drop j).take m).flatMap f) (post:=(l.drop (j+m)).flatMap f++rest) h2 (by rw[cF D,cF D,qM,qM,qZ];congr 1;omega) (by rw[cF D,qM];rw[wO T];omega) ?_ ?_
   ·intro c V;obtain⟨x,_,I⟩:=zQ.1 V;exact w x c I
   ·refine ae.pure' ⟨_,rfl,F _ _ ⟨by rw[g,qw,qw,qM,qM,qZ];omega,.inr ⟨b,rest,h1,?_,h3,h4⟩⟩ (aR.gx h2 (fun X=>X ⟨0,h1⟩))⟩;rw[fA h2,if_pos rfl,ze,ze];simp[qo]
theorem aa.PP(u:C.Ok)(H:aa B h0 h As)(i:Nat)(m:As[i]?=some (an e s k f l))(A:bN C.toBq t e k z by_)(q:∀x,(f x).length=k)(w:Seq h p v k f l2)(a:∀x,∀c∈f x,c.oneCell'=true)(j:Nat)(r:j<=l.length){g:aP}{o D:Nat}(d:g=if s.cap=j then s.ptr else s.ptr.map (·.add (j*k)))(b:o=s.len-j){K:Int->Heap->Prop}
  (E:∀n h',aa B h0 h' (As.set i (an e s k f (l.take j++(l2.take (l.length-j)++l.drop (j+l2.length)))))->K n h'):
  aw C.P (wz #[t,t2] ty #[.slice g o D,.slice v.ptr v.len v.cap]) (.one (.sc (.int .i64))) h K:=
 (H.own i m).PP u A q w a j r d b fun n h' x y=>E n h' (H.lp i m y x)
end
end Go.Vc
namespace Wl
open Go
def b8(n:Int):UInt8:=zH (n%256).toNat
theorem dY(n:Int):qc xr n=((b8 n).toNat:Int):=by
 have h0:=yJ n (show(256:Int)≠0 by decide);have a:=w7 n (show(0:Int)<256 by decide);have e:((b8 n).toNat:Int)=n%256:=by
  unfold b8;rw[UInt8.toNat_ofNat'];omega
 rw[e];unfold qc;simp[qk,yC]
abbrev iP:=BitVec 32
def jc(s:iP):iP:=if s&&&1#32=1#32 then(s>>>1)^^^3988292384#32 else s>>>1
def dG:Nat->iP->iP
 |0,s=>s
 |n+1,s=>jc (dG n s)
def lq(s:iP)(x:UInt8):iP:=dG 8 (s^^^BitVec.ofNat 32 x.toNat)
def ka(l:aU):iP:=l.foldl lq 4294967295#32
def kZ(l:aU):iP:=4294967295#32^^^ka l
theorem Vk(l:aU)(x:UInt8):ka (l++[x])=lq (ka l) x:=by unfold ka;rw[List.foldl_append];rfl
theorem PQ(s:iP):qc xt ((s.toNat:Nat):Int)=(s.toNat:Int):=by
 have:=s.isLt;unfold qc;simp[qk,yC];omega
theorem Vl(a b:iP):qc xt ((qu (qk xt) (a.toNat:Int)^^^qu (qk xt) (b.toNat:Int)).toNat:Nat)=((a^^^b).toNat:Int):=by
 show qc xt (((qu 32 (a.toNat:Int)^^^qu 32 (b.toNat:Int):BitVec 32).toNat:Nat):Int)=_;rw[ya,ya,vu,vu,vw,vw,PQ]
theorem afC(a b:iP):qc xt ((qu (qk xt) (a.toNat:Int)&&&qu (qk xt) (b.toNat:Int)).toNat:Nat)=((a&&&b).toNat:Int):=by
 show qc xt (((qu 32 (a.toNat:Int)&&&qu 32 (b.toNat:Int):BitVec 32).toNat:Nat):Int)=_;rw[ya,ya,vu,vu,vw,vw,PQ]
theorem XA(n:Int):qc xt n=((qu 32 n).toNat:Int):=by
 unfold qc;simp[qk,yC,BitVec.toNat_ofInt];omega
theorem adb(s:iP):qQ (s.toNat:Int) (2^min (1:Int).toNat (qk xt))=((s>>>1).toNat:Int):=by
 rw[show min (1:Int).toNat (qk xt)=1 from rfl,yg _ (by decide),BitVec.toNat_ushiftRight,Nat.shiftRight_eq_div_pow];simp
theorem Uj(s:iP):((s&&&1#32).toNat:Int)=1↔s&&&1#32=1#32:=by
 constructor
 ·intro h;apply BitVec.eq_of_toNat_eq;have:(1#32:iP).toNat=1:=rfl;omega
 ·intro h;rw[h];rfl
def ki(s:iP):aU:=(qy 4).map fun i=>b8 (qQ (s.toNat:Int) (2^(8*i)))
theorem CG(s:iP):(ki s).length=4:=by simp[ki]
def dt(kind:Int)(a:aU):aU:=[87,115,1,b8 kind]++a++qg (55-a.length) 0
def dO(kind:Int)(a:aU):aU:=
 if 1<=kind/\kind<=255/\a.length<=55 then dt kind a++ki (kZ (dt kind a))++[165]else[]
theorem uG{kind:Int}{a:aU}(h:a.length<=55):(dt kind a).length=59:=by simp[dt];omega
theorem na{kind:Int}{a:aU}(c:1<=kind)(b:kind<=255)(h3:a.length<=55):(dO kind a).length=64:=by
 unfold dO;rw[if_pos ⟨c,b,h3⟩];simp[uG h3,CG]
end Wl
namespace Go.Vc
open Go
def iu(s:ByteArray):aU:=s.data.toList
theorem CH(s:ByteArray):(iu s).length=s.size:=rfl
def afU(n:Nat):Obj->Obj
 | .cells c elem (lo,hi)=>.cells c elem (if lo==hi then(n,n+1)else(min lo n,max hi (n+1)))
 |o=>o
theorem ae.Na{P:Program}{h:Heap}{b n:Nat}{c:Array Value}{e:TypeId}{K:Unit->Heap->Prop}(j:h[b]?=some (.cells c e (0,0)))(k:n=c.size)(g:∀h',(∀x,x≠b->h'[x]?=h[x]?)->h'.size=h.size->(∃f,h'[b]?=some (.cells c e f))->K () h'):
  ae P (freeze {block:=b,off:=n} 1) h K:=fun w i=>by
 refine⟨(),w.freeze {block:=b,off:=n} 1,run_freeze P w _ _,⟨rfl,rfl,rfl,ql _⟩,?_⟩;subst i;have a:(w.freeze {block:=b,off:=n} 1).heap=w.heap.modify b (afU n):=rfl;refine g _ (fun x d=>?_) ?_ ?_
 ·rw[a,wX,if_neg (fun e=>d e.symm)]
 ·rw[a];simp
 ·rw[a,wX,if_pos rfl,j];exact⟨_,rfl⟩
section
variable {C:Ctx} {B:aA} {h h0:Heap} {As:List HP} {t e ts:Nat}
theorem adc(g:C.Ok)(D:∃i,C.T.get ts=some i/\i.cu=.str)(G:∃i,C.T.get t=some i/\i.cu=.slice e)(w:∃i,C.T.get e=some i/\i.cu=.int .u8)(s:ByteArray){K:Sl->Heap->Prop}(F:∀r h',Sp h h' [nL r 1 az (iu s)]->K r h'):
  aw C.P (convert ts t (.string s)) (.one (.sc .slc)) h K:=by
 obtain⟨M,I,q⟩:=D;obtain⟨L,z,A⟩:=G;obtain⟨i3,a3,u⟩:=w;have p:C.P.underlying ts=some .string:=by have:=g.cu I;rw[q]at this;exact uk this
 have B:C.P.underlying t=some (.slice e):=by have:=g.cu z;rw[A]at this;exact hG this
 have u3:C.P.underlying e=some (.int .u8):=by have:=g.cu a3;rw[u]at this;exact Bu this
 unfold aw convert;refine ae.bind (ae.always (aI p) ?_);refine ae.bind (ae.always (aI B) ?_);refine ae.bind (ae.always (aI u3) ?_);unfold Conv.stringToBytes;refine ae.bind (ae.Lr ⟨fun E=>(by cases E),fun _ H=>?_⟩);generalize k:Question.cut (Question.appendCap s.size 0 e) H=cc;have m:s.size<=cc:=by rw[<-k];simp only[Question.cut];omega
 unfold newRow;refine ae.bind (ae.bind (ae.pS (ae.pure' ?_)));unfold markStringish;obtain⟨a,d⟩:∃a:Array Value,a=s.data.map (fun b=>Value.int .u8 b.toNat)++Array.replicate (cc-s.size) (Value.int .u8 0):=⟨_,rfl⟩
 rw[<-d];refine ae.bind (ae.bind (ae.Xo ?_));have l:shapeOf (h.push (.cells a e)) h.size=some (e,a.size):=by unfold shapeOf;simp
 dsimp only;rw[l];refine ae.Na (c:=a) (e:=e) (by simp) rfl fun h' y o j=>?_;refine ae.pure' ⟨⟨some ⟨h.size,0,none⟩,s.size,cc⟩,rfl,F _ _ ?_⟩;obtain⟨f,j⟩:=j;refine .one ⟨by rw[o];simp,fun b J _=>by rw[y b (by omega),Array.getElem?_push,if_neg (by omega)]⟩ ?_;refine⟨by rw[CH],fun i x n=>⟨h.size,0,rfl,⟨ql _,by rw[o];simp⟩,?_,trivial⟩⟩;rw[add_zero];have v:i<s.data.size:=by have:=(List.getElem?_eq_some_iff.1 n).1;simpa[iu]using this
 unfold cellOf;simp only[j,Nat.mul_one,zX,Option.isSome_none,zf,if_false];rw[d,Array.getElem?_append_left (by simpa using v),Array.getElem?_map];have:s.data[i]?=some x:=by rw[<-n];simp[iu]
 rw[this];rfl
end
section
variable {C:Ctx} {t t2 e k:Nat} {z:aV} {by_:Nat} {h h0:Heap} {B:aA} {As:List HP} {s:Sl} {l:aU}
theorem Of(w:C.Ok)(E:bN C.toBq t e 1 z by_)(Y:∃i,C.T.get t2=some i/\i.cu=.str)(hz:z.length=1)(B:0<by_/\by_<=128)
  (u:Own h e s 1 az l) (x:ByteArray) (ah:l.length+x.size<=2^32) {ty:Nat} {K:Sl->Heap->Prop}
  (H:∀I h',Own h' e I 1 az (l++iu x)->aR (fun b=>¬s.on b) h h'->(∀b,I.on b->s.on b∨h.size<=b)->K I h'):
  aw C.P (qq #[t,t2] ty #[.slice s.ptr s.len s.cap,.string x]) (.one (.sc .slc)) h K:=by
 obtain⟨i2,Z,Q⟩:=Y;have A:C.P.underlying t2=some .string:=by have:=w.cu Z;rw[Q]at this;exact uk this
 obtain⟨F,v,x2,x3,zv,S,x5⟩:=E.info w;have n:∀y∈(iu x).flatMap az,y.oneCell'=true:=fun y V=>by
  obtain⟨b,_,O⟩:=zQ.1 V;exact fT b y O
 have g:((x.extract 0 x.size).data.map fun b=>Value.int .u8 (b.toNat:Int))=((iu x).flatMap az).toArray:=by
  have R:x.extract 0 x.size=x:=by
   apply ByteArray.ext;simp[ByteArray.data_extract]
  rw[R];apply Array.ext';simp only[Array.toList_map,iu];exact List.map_eq_flatMap
 unfold aw qq;simp only[zL,w9,qz];refine ae.bind (ae.always (aI (E.under w)) ?_);refine ae.bind (ae.always (E.size w) ?_);refine ae.bind (ae.always (aI A) ?_);refine ae.bind (ae.pure' ?_);simp only[zf,if_false,Bool.not_false,if_true];refine ae.bind (ae.pure' ?_);have p:=u.len;have r:∀y,(az y).length=1:=fun _=>rfl;have j:=cF r l;have a:=cF r (iu x);have U:=CH x;have m:∀{h:Heap} {K:Array Value->Heap->Prop},K ((iu x).flatMap az).toArray h->ae C.P (wK 1 x.size (.string x)) h K:=fun{h K} hK=>by
  unfold wK;dsimp only;rw[g];exact ae.pure' hK
 by_cases f:s.len+x.size<=s.cap
 ·rw[if_pos f];refine ae.bind (m ?_);rcases u.head with⟨p1,p2,p3⟩|⟨b,rest,p1,p2,p3,p4⟩
  ·rw[p1];have G:iu x=[]:=List.eq_nil_of_length_eq_zero (by omega);refine ae.pure' ⟨⟨none,s.len+x.size,s.cap⟩,rfl,H _ _ ⟨?_,.inl ⟨rfl,p2,by simp[p3,G]⟩⟩ (aR.refl _ _) ?_⟩
   ·simp;omega
   ·rintro M ⟨o,d⟩;cases d
  ·rw[p1];refine ae.bind ?_;rw[add_eq,zX];have J:((iu x).flatMap az).length<=rest.length:=by
    rw[a,p3];omega
   refine db (e:=e) (pre:=l.flatMap az) (old:=rest.take ((iu x).flatMap az).length) (post:=rest.drop ((iu x).flatMap az).length) ?_ ?_ ?_ ?_ ?_
   ·rw[qo,qx];exact p2
   ·rw[qM];exact wO J
   ·rw[j,p];omega
   ·intro c X;exact n c (by simpa using X)
   ·refine ae.pure' ⟨⟨some ⟨b,0,none⟩,s.len+x.size,s.cap⟩,rfl,H _ _ ⟨?_,.inr ⟨b,rest.drop ((iu x).flatMap az).length,rfl,?_,?_,f⟩⟩ ?_ ?_⟩
    ·simp;omega
    ·rw[fA p2,if_pos rfl];simp
    ·rw[qZ,p3,a];show(s.cap-s.len)*1-(iu x).length*1=(s.cap-(s.len+x.size))*1;omega
    ·exact aR.gx p2 (fun hn=>hn ⟨0,p1⟩)
    ·rintro M ⟨o,d⟩;cases d;exact .inl ⟨0,p1⟩
 ·rw[if_neg f];have q:Seq h (fun _=>True) s 1 az l:=u.seq r (fun _ _=>trivial);have N:=u.cap;refine ae.bind (ae.always (cN v) ?_);rw[if_neg (fun W=>by rcases W.2 with h|h<;>first|exact h|(rw[x3]at h;omega))];refine ae.bind (ae.always (cN v) ?_);have ad:=Uf (s.len+x.size) s.cap;rw[if_neg (by
   have:Builtin.nextslicecap (s.len+x.size) s.cap*F.bytes<=(16*2^32+16*768)*128:=Nat.mul_le_mul (by omega) (by rw[x3];exact B.2);omega)]
  refine ae.bind (ae.Lr ⟨fun hf=>(by cases hf),fun _ nn=>?_⟩);refine ae.bind (ae.always (cN v) ?_);refine ae.bind (ae.Ip ?_);refine ae.bind (fq r q ?_);refine ae.bind (m ?_);have L:aJ C.P (zeroValue e) zv:=(cN v).bind (by rw[S];exact .pure);refine ae.bind (ae.always L ?_);rw[x5,EN];unfold newRow;refine ae.bind (ae.bind (ae.pS (ae.pure' (ae.pure' ?_))));generalize D:Question.cut (Question.appendCap (s.len+x.size) s.cap e) nn=cc;have k:s.len+x.size<=cc:=by rw[<-D];simp only[Question.cut];omega
  refine⟨⟨some ⟨h.size,0,none⟩,s.len+x.size,cc⟩,rfl,H _ _ ⟨?_,.inr ⟨h.size,hO z (cc-(s.len+x.size)),rfl,?_,?_,k⟩⟩ (aR.push _ _ _) ?_⟩
  ·simp;omega
  ·simp
  ·rw[nJ,hz]
  ·rintro M ⟨o,d⟩;cases d;exact .inr (ql _)
theorem aa.XB(r:C.Ok)(H:aa B h0 h As)(i:Nat)(u:As[i]?=some (an e s 1 az l))(v:bN C.toBq t e 1 z by_)(y:∃i,C.T.get t2=some i/\i.cu=.str)(E:z.length=1)(k:0<by_/\by_<=128)
  (x:ByteArray) (o:l.length+x.size<=2^32) {ty:Nat} {K:Sl->Heap->Prop} (F:∀f h',aa B h0 h' (As.set i (an e f 1 az (l++iu x)))->K f h'):
  aw C.P (qq #[t,t2] ty #[.slice s.ptr s.len s.cap,.string x]) (.one (.sc .slc)) h K:=by
 obtain⟨A,p,c,q,a⟩:=H;have n:=a i _ u;refine Of r v y E k n.1 x o fun f h' d j m=>F f h' ?_;refine aa.Cz A p q a (j.mono fun b g D w=>D (n.2 b w)) ⟨d,fun b g=>⟨d.lt g,?_⟩⟩;rcases m b g with h1|h1
 ·exact .inl (n.2 b h1)
 ·exact .inr h1
end
end Go.Vc
namespace Wl
open Go
structure cm where
 name:ByteArray
 object:Int
 length:Int
 tries:aB
structure aD where
 seq:Int
 next:Int
 p:Int×Int×Int
 extra:Int
 drives:aB
 aL:List cm
def afD:cm:=⟨⟨#[]⟩,0,0,[]⟩
def oS(l:List cm)(i:Nat):cm:=l.getD i afD
theorem nP{l:List cm}{i:Nat}(h:i<l.length:=by omega):oS l i=l[i]:=by unfold oS;rw[qe,qd h];rfl
def fh(n a b:Int):Bool:=decide (a<=n)&&decide (n<=b)
def lS(c:UInt8):Bool:=(decide (97<=c.toNat)&&decide (c.toNat<=122))||(decide (48<=c.toNat)&&decide (c.toNat<=57))||decide (c.toNat=45)
def lH(s:ByteArray):Bool:=s.data.toList.all lS&&(decide (1<=s.size)&&decide (s.size<=12))
def eG(a b:ByteArray):Bool:=Op.bytesLess a.toList b.toList
def jd(l:aB)(a:Int)(i:Nat):Bool:=fh (l.getD i 0) 0 a&&(decide (i=0)||decide (l.getD (i-1) 0<l.getD i 0))
def oT(l:aB)(a:Int):Bool:=(qy l.length).all (jd l a)
def countP(p:Int×Int×Int)(n:Int):Int:=if bA p&&decide (0<n)then(n-1)/(p.1*p.2.2)+1 else 0
def gd(m:aD)(x:cm):Bool:=
 lH x.name&&(fh x.object 0 (m.next-1)&&(fh x.length 0 (m.p.1*m.p.2.2*8)&&(x.tries.all (fh · 0 15)&&decide ((x.tries.length:Int)=countP m.p x.length))))
def oU(m:aD)(i:Nat):Bool:=
 gd m (oS m.aL i)&&((decide (i=0)||eG (oS m.aL (i-1)).name (oS m.aL i).name)&&!(m.aL.take i).any fun y=>decide (y.object=(oS m.aL i).object))
def kb(m:aD):Bool:=fh m.seq 1 2147483647&&(fh m.next 0 16777216&&(bA m.p&&fh m.extra 0 16))
def bQ(m:aD):Bool:=kb m&&(oT m.drives 63&&(decide (m.aL.length<=12)&&(qy m.aL.length).all (oU m)))
theorem Fa{p:Nat->Bool}{n i:Nat}(a:i<n)(h:p i=false):(qy n).all p=false:=List.all_eq_false.2 ⟨i,qI.2 a,by rw[h];simp⟩
theorem sM{p:Nat->Bool}{n:Nat}(h:∀i,i<n->p i=true):(qy n).all p=true:=List.all_eq_true.2 fun i a=>h i (qI.1 a)
def bL(n:Int)(k:Nat):aU:=(qy k).map fun i=>b8 (qQ n (2^(8*(k-1-i))))
theorem ci(n:Int)(k:Nat):(bL n k).length=k:=by simp[bL]
def iB(x:cm):aU:=b8 x.name.size::(x.name.data.toList++(bL x.object 3++(bL x.length 2++x.tries.map b8)))
def gC(m:aD):aU:=
 if bQ m then bL m.seq 4++(bL m.next 4++([b8 m.p.1,b8 m.p.2.1,b8 m.p.2.2,b8 m.extra,b8 m.drives.length]++(m.drives.map b8++(b8 m.aL.length::m.aL.flatMap iB))))else[]
def ju(seq a c:Int)(b:aU):aU:=dO 2 (bL seq 4++([b8 a,b8 c,b8 b.length]++b))
def gV(b:aU):Nat:=(b.length+47)/48
def bf(m:aD):cv:=(qy (gV (gC m))).map fun i:Nat=>ju m.seq i (gV (gC m)) (((gC m).drop (48*i)).take 48)
theorem XC{m:aD}(h:bQ m=true):kb m=true:=by unfold bQ at h;simp at h;exact h.1
theorem PR{m:aD}(h:kb m=true):(1<=m.seq/\m.seq<=2147483647)/\(0<=m.next/\m.next<=16777216)/\bA m.p=true/\0<=m.extra/\m.extra<=16:=by
 unfold kb fh at h;simpa[and_assoc]using h
theorem CI{m:aD}{c:aU}(h:c∈bf m):c.length=64:=by
 unfold bf at h;obtain⟨i,_,rfl⟩:=qC.1 h;exact na (by decide) (by decide) (by simp[ci];omega)
structure cV where
 object:Int
 block:Int
 id:Int
 p:Int×Int×Int
 seed:Int
 data:aU
theorem nc(n:Int):((b8 n).toNat:Int)=n%256:=by
 have h0:=yJ n (show(256:Int)≠0 by decide);have a:=w7 n (show(0:Int)<256 by decide);unfold b8;rw[UInt8.toNat_ofNat'];omega
def iC(r:cV):Bool:=(fh r.object 0 16777215&&(fh r.block 0 7&&bp r.id))&&(bA r.p&&decide ((r.data.length:Int)=r.p.2.2))
def im(r:cV):aU:=bL r.object 3++(bL r.block 1++(bL r.id 2++([b8 r.p.1,b8 r.p.2.1,b8 r.p.2.2]++(bL r.seed 4++r.data))))
def dI(r:cV):aU:=if iC r then dO 1 (im r)else[]
def cO(l:aU):Int:=l.foldl (fun n x=>n*256+x.toNat) 0
def eU(c:aU):Option (Int×aU):=
 if c.length=64/\dO ((c.getD 3 0).toNat:Int) ((c.drop 4).take 55)=c then some (((c.getD 3 0).toNat:Int),(c.drop 4).take 55)else none
def tG(x:aU):cV:=
 ⟨cO (x.take 3),cO ((x.drop 3).take 1),cO ((x.drop 4).take 2),(cO ((x.drop 6).take 1),cO ((x.drop 7).take 1),cO ((x.drop 8).take 1)),cO ((x.drop 9).take 4),(x.drop 13).take (cO ((x.drop 8).take 1)).toNat⟩
def cP(c:aU):Option cV:=
 match eU c with
 |some (k,x)=>if k=1/\bA (tG x).p=true/\dI (tG x)=c then some (tG x)else none
 |none=>none
theorem XD(n:Int):bL n 1=[b8 n]:=by simp[bL]
theorem XE(n:Int):bL n 2=[b8 (qQ n (2^8)),b8 n]:=by simp[bL,zt]
theorem SC(n:Int):bL n 3=[b8 (qQ n (2^16)),b8 (qQ n (2^8)),b8 n]:=by simp[bL,zt]
theorem JI(n:Int):bL n 4=[b8 (qQ n (2^24)),b8 (qQ n (2^16)),b8 (qQ n (2^8)),b8 n]:=by simp[bL,zt]
theorem CJ{n:Int}(a:0<=n:=by omega)(b:n<256:=by omega):cO [b8 n]=n:=by
 simp only[cO,zD,wx,nc];omega
theorem fdiv_pow(n:Int)(k:Nat):qQ n (2^k)=n/(2^k):=yg _ (Int.pow_nonneg (by decide))
theorem aar{n:Int}(a:0<=n)(b:n<65536):cO (bL n 2)=n:=by
 rw[XE,fdiv_pow];simp only[cO,zD,wx,nc];omega
theorem Vm{n:Int}(a:0<=n)(b:n<16777216):cO (bL n 3)=n:=by
 rw[SC,fdiv_pow,fdiv_pow];simp only[cO,zD,wx,nc];omega
theorem Nb{n:Int}(a:0<=n)(b:n<4294967296):cO (bL n 4)=n:=by
 rw[JI,fdiv_pow,fdiv_pow,fdiv_pow];simp only[cO,zD,wx,nc];omega
theorem jO(r:cV):iC r=true↔(0<=r.object/\r.object<=16777215)/\(0<=r.block/\r.block<=7)/\(0<=r.id/\r.id<=65535)/\bA r.p=true/\(r.data.length:Int)=r.p.2.2:=by
 unfold iC fh bp;simp[and_assoc]
theorem nZ{r:cV}(h:iC r=true):(im r).length=13+r.data.length/\r.data.length<=24:=by
 obtain⟨_,_,_,a,b⟩:=(jO r).1 h;have:=(bC r.p).1 a;refine⟨by unfold im;simp[ci];omega,by omega⟩
theorem PS{r:cV}(h:iC r=true):(dI r).length=64:=by
 have:=nZ h;unfold dI;rw[if_pos h];exact na (by decide) (by decide) (by omega)
theorem Ah{k:Int}{a:aU}(d:1<=k:=by decide)(c:k<=255:=by decide)(h3:a.length<=55:=by omega):eU (dO k a)=some (k,a++qg (55-a.length) 0):=by
 obtain⟨x,b⟩:∃x,x=a++qg (55-a.length) 0:=⟨_,rfl⟩
 have e:x.length=55:=by rw[b];simp;omega
 have f:dO k a=[87,115,1,b8 k]++(x++(ki (kZ (dt k a))++[165])):=by
  unfold dO;rw[if_pos ⟨d,c,h3⟩];unfold dt;rw[b];simp[qo]
 have j:((dO k a).getD 3 0)=b8 k:=by rw[f];rfl
 have g:((dO k a).drop 4).take 55=x:=by
  rw[f];have:([87,115,1,b8 k]++(x++(ki (kZ (dt k a))++[165]))).drop 4=x++(ki (kZ (dt k a))++[165]):=rfl;rw[this,List.take_append_of_le_length (by omega),qi (by omega)]
 have i:((b8 k).toNat:Int)=k:=by rw[nc];omega
 have h:dt k x=dt k a:=by
  unfold dt;rw[e,b];simp[qo]
 have l:dO k x=dO k a:=by
  unfold dO;rw[if_pos ⟨d,c,by omega⟩,if_pos ⟨d,c,h3⟩,h]
 unfold eU;rw[j,g,i,if_pos ⟨na d c h3,l⟩,b]
theorem Vn{r:cV}(h:iC r=true)(w:0<=r.seed/\r.seed<4294967296)(z:aU):tG (im r++z)=r:=by
 obtain⟨t,x,h3,s,y⟩:=(jO r).1 h;have A:=(bC r.p).1 s;have l1:=ci r.object 3;have l2:=ci r.id 2;have g:=ci r.seed 4;have e:im r++z=bL r.object 3++([b8 r.block]++(bL r.id 2++([b8 r.p.1]++([b8 r.p.2.1]++([b8 r.p.2.2]++(bL r.seed 4++(r.data++z))))))):=by
  unfold im;rw[XD];simp[qo]
 have d:∀(u v:aU) (n:Nat),u.length=n->∀m,(u++v).drop (n+m)=v.drop m:=fun u v n c m=>by
  rw[<-zB,<-c,List.drop_left]
 have a:∀(u v:aU) (n:Nat),u.length=n->(u++v).take n=u:=fun u v n c=>by rw[<-c,vZ]
 have j:(im r++z).drop 3=[b8 r.block]++(bL r.id 2++([b8 r.p.1]++([b8 r.p.2.1]++([b8 r.p.2.2]++(bL r.seed 4++(r.data++z)))))):=by rw[e];exact d _ _ 3 l1 0
 have l:(im r++z).drop 4=bL r.id 2++([b8 r.p.1]++([b8 r.p.2.1]++([b8 r.p.2.2]++(bL r.seed 4++(r.data++z))))):=by
  rw[show 4=3+1 from rfl,<-zB,j];rfl
 have f:(im r++z).drop 6=[b8 r.p.1]++([b8 r.p.2.1]++([b8 r.p.2.2]++(bL r.seed 4++(r.data++z)))):=by
  rw[show 6=4+2 from rfl,<-zB,l];exact d _ _ 2 l2 0
 have o:(im r++z).drop 7=[b8 r.p.2.1]++([b8 r.p.2.2]++(bL r.seed 4++(r.data++z))):=by
  rw[show 7=6+1 from rfl,<-zB,f];rfl
 have i:(im r++z).drop 8=[b8 r.p.2.2]++(bL r.seed 4++(r.data++z)):=by
  rw[show 8=7+1 from rfl,<-zB,o];rfl
 have k:(im r++z).drop 9=bL r.seed 4++(r.data++z):=by
  rw[show 9=8+1 from rfl,<-zB,i];rfl
 have b:(im r++z).drop 13=r.data++z:=by
  rw[show 13=9+4 from rfl,<-zB,k];exact d _ _ 4 g 0
 have q:cO (((im r++z).drop 8).take 1)=r.p.2.2:=by rw[i,a _ _ 1 rfl,CJ]
 unfold tG;rw[q,j,l,f,o,k,b];rw[a [b8 r.block] _ 1 rfl,a _ _ 2 l2,a [b8 r.p.1] _ 1 rfl,a [b8 r.p.2.1] _ 1 rfl,a _ _ 4 g];have t0:(im r++z).take 3=bL r.object 3:=by rw[e];exact a _ _ 3 l1
 rw[t0,Vm (by omega) (by omega),CJ,aar (by omega) (by omega),CJ,CJ,Nb (by omega) (by omega)];have:r.p.2.2.toNat=r.data.length:=by omega
 rw[this,vZ]
theorem rQ{r:cV}(h:iC r=true)(a:0<=r.seed/\r.seed<4294967296):cP (dI r)=some r:=by
 have c:=nZ h;have b:=((jO r).1 h).2.2.2.1;have e:dI r=dO 1 (im r):=by unfold dI;rw[if_pos h]
 unfold cP;rw[e,Ah];dsimp only;rw[Vn h a,if_pos ⟨rfl,b,e⟩]
theorem Vo{c:aU}{r:cV}(h:cP c=some r):dI r=c/\iC r=true/\bA r.p=true:=by
 unfold cP at h;cases hc:eU c with
 |none=>rw[hc]at h;cases h
 |some kx=>
  rw[hc]at h;dsimp only at h;by_cases a:kx.1=1/\bA (tG kx.2).p=true/\dI (tG kx.2)=c
  ·rw[if_pos a]at h;injection h with h
   subst h;refine⟨a.2.2,?_,a.2.1⟩;by_cases d:iC (tG kx.2)=true
   ·exact d
   ·exfalso;have b:=a.2.2;unfold dI at b;rw[if_neg d]at b;unfold eU at hc;rw[<-b]at hc;simp at hc
  ·rw[if_neg a]at h;cases h
end Wl
namespace Go.Vc
open Go
section
variable {C:Ctx} {h:Heap} {t e ts:Nat}
theorem HJ:∀(l:aU) (b:ByteArray),l.foldl ByteArray.push b=⟨(b.data.toList++l).toArray⟩
 |[],b=>by simp
 |x::l,b=>by
  rw[zD,HJ l (b.push x)];simp[ByteArray.push]
theorem LC(j:C.Ok)(M:∃i,C.T.get t=some i/\i.cu=.slice e)(J:∃i,C.T.get ts=some i/\i.cu=.str)(F:∃i,C.T.get e=some i/\i.cu=.int .u8){s:Sl}{l:aU}{p:aA}(w:Seq h p s 1 az l){K:ByteArray->Heap->Prop}(z:K ⟨l.toArray⟩ h):
  aw C.P (convert t ts (.slice s.ptr s.len s.cap)) (.one (.sc .str)) h K:=by
 obtain⟨Q,N,D⟩:=J;obtain⟨O,H,G⟩:=M;obtain⟨i3,a3,E⟩:=F;have B:C.P.underlying ts=some .string:=by have:=j.cu N;rw[D]at this;exact uk this
 have I:C.P.underlying t=some (.slice e):=by have:=j.cu H;rw[G]at this;exact hG this
 have u3:C.P.underlying e=some (.int .u8):=by have:=j.cu a3;rw[E]at this;exact Bu this
 unfold aw convert;refine ae.bind (ae.always (aI I) ?_);refine ae.bind (ae.always (aI B) ?_);refine ae.bind (ae.always (aI u3) ?_);unfold Conv.bytesToString;have d:=fq (P:=C.P) (f:=az) (k:=1) (K:=fun u h'=>u=(l.flatMap az).toArray/\h'=h) (fun _=>rfl) w ⟨rfl,rfl⟩;cases hp:s.ptr with
 |none=>
  have:l=[]:=by
   cases l with
   |nil=>rfl
   |cons x r=>obtain⟨b,o,y,_⟩:=w.elem 0 x (by simp);rw[hp]at y;cases y
  subst this;exact ae.pure' ⟨⟨#[]⟩,rfl,z⟩
 |some a=>
  rw[hp]at d;dsimp only;have g:ae C.P (loadCells a s.len) h fun u h'=>u=(l.flatMap az).toArray/\h'=h:=by
   have:wK 1 s.len (.slice (some a) s.len s.cap)=loadCells a s.len:=by
    unfold wK;simp
   rw[<-this];exact d
  refine ae.bind (g.mono ?_);rintro _ _ ⟨rfl,rfl⟩;have q:∀(l:aU) (b:ByteArray),aJ C.P (forIn (m:=Sem) (l.flatMap az) b fun c r=>match c with
    |xk xr n=>do pure (ForInStep.yield (r.push (zH n.toNat)))
    |_=>do let r<-stuck "bytesToString: byte expected";pure r) (l.foldl ByteArray.push b):=fun l=>by
   induction l with
   |nil=>intro b;exact .pure
   |cons x l ih=>
    intro b;have L:(x::l).flatMap az=Value.int .u8 x.toNat::l.flatMap az:=rfl;rw[L,List.forIn_cons];have A:b.push (zH ((x.toNat:Int)).toNat)=b.push x:=by
     rw[Int.toNat_natCast];congr 1;apply UInt8.toNat_inj.1;simp
    refine aJ.bind (v:=ForInStep.yield (b.push x)) (by dsimp only;rw[A];exact .pure) ?_;exact ih _
  refine ae.bind (ae.always (v:=l.foldl ByteArray.push ByteArray.empty) ?_ ?_)
  ·rw[List.forIn_toArray];exact q l _
  ·refine ae.pure' ⟨_,rfl,?_⟩;rw[HJ];exact z
end
end Go.Vc
namespace Wl
section
variable {α:Type} (le:α->α->Bool)
def ia(a b:α):Bool:=le a b&&le b a
def bY(l a:List α):Prop:=∀x,l.filter (ia le x)=a.filter (ia le x)
def Sd(l:List α):Prop:=l.Pairwise fun a b=>le a b=true
structure Ord:Prop where
 trans:∀a b c,le a b=true->le b c=true->le a c=true
 total:∀a b,(le a b||le b a)=true
variable {le}
theorem Ord.Fb(o:Ord le){a b:α}(h:¬le a b=true):le b a=true:=by
 have:=o.total a b;cases h1:le a b with
 |true=>exact absurd h1 h
 |false=>rw[h1]at this;simpa using this
theorem Ord.refl(o:Ord le)(a:α):le a a=true:=by have:=o.total a a;simpa using this
theorem bY.refl(l:List α):bY le l l:=fun _=>rfl
theorem bY.trans{l1 l2 a:List α}(h:bY le l1 l2)(k:bY le l2 a):bY le l1 a:=fun x=>(h x).trans (k x)
theorem bY.symm{l1 l2:List α}(h:bY le l1 l2):bY le l2 l1:=fun x=>(h x).symm
theorem bY.app{a b c d:List α}(h:bY le a b)(k:bY le c d):bY le (a++c) (b++d):=fun x=>by
 rw[zg,zg,h x,k x]
theorem bY.mem(o:Ord le){l a:List α}(h:bY le l a){y:α}(c:y∈a):y∈l:=by
 have b:y∈a.filter (ia le y):=qJ.2 ⟨c,by unfold ia;rw[o.refl];rfl⟩;rw[<-h y]at b;exact(qJ.1 b).1
theorem bY.XF(o:Ord le){u v:List α}(h:∀x∈u,∀y∈v,¬le x y=true):bY le (u++v) (v++u):=fun z=>by
 rw[zg,zg];by_cases f:u.filter (ia le z)=[]
 ·rw[f];simp
 ·by_cases e:v.filter (ia le z)=[]
  ·rw[e];simp
  ·exfalso;obtain⟨x,g⟩:=vm _ f;obtain⟨y,i⟩:=vm _ e;obtain⟨c,b⟩:=qJ.1 g;obtain⟨d,a⟩:=qJ.1 i;unfold ia at b a;simp only[qA]at b a;exact h x c y d (o.trans _ _ _ b.2 a.1)
theorem bY.PT(o:Ord le){l:List α}(h:bY le [] l):l=[]:=by
 cases l with
 |nil=>rfl
 |cons a l=>exact absurd (bY.mem o h (q0 ..)) (by simp)
theorem Nc(o:Ord le):∀(l c:List α),Sd le l->Sd le c->bY le l c->l=c
 |[],c,_,_,h=>(bY.PT o h).symm
 |a::l,[],_,_,h=>absurd (bY.PT o h.symm) (by simp)
 |a::l,b::c,s,s',h=>by
  have d:a=b:=by
   have j:le a b=true:=by
    have:=bY.mem o h (y:=b) (q0 ..);rcases q8.1 this with e|e
    ·rw[e];exact o.refl _
    ·exact(zM.1 s).1 _ e
   have f:le b a=true:=by
    have:=bY.mem o h.symm (y:=a) (q0 ..);rcases q8.1 this with e|e
    ·rw[e];exact o.refl _
    ·exact(zM.1 s').1 _ e
   have h3:=h a;have i:ia le a a=true:=by unfold ia;rw[o.refl];rfl
   have g:ia le a b=true:=by unfold ia;rw[j,f];rfl
   rw[yV i,yV g]at h3;injection h3
  subst d;rw[Nc o l c (zM.1 s).2 (zM.1 s').2 fun x=>by
   have h3:=h x;rw[zo,zo]at h3;split at h3
   ·injection h3
   ·exact h3]
theorem Fc(o:Ord le)(l:List α):Sd le (l.mergeSort le)/\bY le l (l.mergeSort le):=by
 refine⟨List.pairwise_mergeSort o.trans o.total l,fun x=>?_⟩;have g:(l.filter (ia le x)).Pairwise fun a b=>le a b=true:=by
  rw[List.pairwise_filter];refine List.Pairwise.imp ?_ (List.pairwise_of_forall (l:=l) (R:=fun _ _=>True) fun _ _=>trivial);intro a b _ e d;unfold ia at e d;simp only[qA]at e d;exact o.trans _ _ _ e.2 d.1
 have f:=List.sublist_mergeSort o.trans o.total g List.filter_sublist;have c:=f.filter (ia le x);rw[List.filter_filter]at c;simp only[Bool.and_self]at c;exact c.eq_of_length ((List.mergeSort_perm l le).symm.filter _).length_eq
theorem Vp(o:Ord le){l a:List α}(s:Sd le a)(h:bY le l a):a=l.mergeSort le:=by
 obtain⟨c,b⟩:=Fc o l;exact Nc o _ _ s c (h.symm.trans b)
theorem Sd.app(o:Ord le){u v:List α}(b:Sd le u)(a:Sd le v)(h:∀x∈u,∀y∈v,le x y=true):Sd le (u++v):=wL.2 ⟨b,a,h⟩
theorem Sd.left{u v:List α}(h:Sd le (u++v)):Sd le u:=(wL.1 h).1
theorem Sd.right{u v:List α}(h:Sd le (u++v)):Sd le v:=(wL.1 h).2.1
theorem Sd.GZ{u v:List α}(h:Sd le (u++v)):∀x∈u,∀y∈v,le x y=true:=(wL.1 h).2.2
theorem Sd.at_(o:Ord le){l:List α}(h:Sd le l){i j:Nat}(a:i<=j)(b:j<l.length):le (l[i]'(by omega)) l[j]=true:=by
 by_cases e:i=j
 ·subst e;exact o.refl _
 ·exact List.pairwise_iff_getElem.1 h i j (by omega) b (by omega)
theorem XG(o:Ord le){l1 l2 b a f g:List α}(k:Sd le (l1++l2))(l:Sd le (b++a))(h:∀x∈l1,∀y∈a,le x y=true)(e:∀x∈l2,∀y∈b,¬le x y=true)
  (j:bY le (l1++b) f) (p:Sd le f) (i:bY le (l2++a) g) (m:Sd le g):Sd le (f++g)/\bY le ((l1++l2)++(b++a)) (f++g):=by
 constructor
 ·refine Sd.app o p m fun x d y c=>?_;rcases qF.1 (bY.mem o j d)with d|d<;>rcases qF.1 (bY.mem o i c)with c|c
  ·exact k.GZ x d y c
  ·exact h x d y c
  ·exact o.Fb (e y c x d)
  ·exact l.GZ x d y c
 ·have n:bY le ((l1++l2)++(b++a)) ((l1++b)++(l2++a)):=by
   rw[show(l1++l2)++(b++a)=l1++((l2++b)++a)by simp,show(l1++b)++(l2++a)=l1++((b++l2)++a)by simp];exact(bY.refl _).app ((bY.XF o e).app (bY.refl _))
  exact n.trans (j.app i)
end
section
variable {α:Type} {le:α->α->Bool}
theorem un(o:Ord le):∀{l j:List α},bY le l j->l.length=j.length
 |[],j,h=>by rw[bY.PT o h]
 |a::l,j,h=>by
  have z:=bY.mem o h.symm (y:=a) (q0 ..);obtain⟨u,v,p⟩:=List.append_of_mem z;have t:∃(u:List α) (b:α) (v:List α),j=u++b::v/\(∀x∈u,ia le a x=false)/\ia le a b=true:=by
   have m:j.filter (ia le a)≠[]:=fun E=>by
    have:a∈j.filter (ia le a):=qJ.2 ⟨z,by unfold ia;rw[o.refl];rfl⟩;rw[E]at this;cases this
   clear p u v z h
   induction j with
   |nil=>exact absurd rfl m
   |cons c j ih=>
    by_cases w:ia le a c=true
    ·exact⟨[],c,j,rfl,by simp,w⟩
    ·rw[List.filter_cons_of_neg w]at m;obtain⟨u,b,v,e,f,g⟩:=ih m;refine⟨c::u,b,v,by rw[e];rfl,fun x i=>?_,g⟩;rcases q8.1 i with rfl|i
     ·simpa using w
     ·exact f x i
  obtain⟨u,b,v,rfl,A,B⟩:=t;have G:ia le a a=true:=by unfold ia;rw[o.refl];rfl
  have n:=h a;have q:u.filter (ia le a)=[]:=wP.2 fun x i=>by rw[A x i];simp
  rw[yV G,zg,q,wh,yV B]at n;have s:a=b:=by injection n
  subst s;have F:bY le l (u++v):=fun x=>by
   have i:=h x;rw[zo,zg,zo]at i;rw[zg];by_cases d:ia le x a=true
   ·rw[if_pos d,if_pos d]at i;have r:u.filter (ia le x)=[]:=wP.2 fun y D k=>by
     have:=A y D;unfold ia at this d k;simp only[qA]at d k;rw[o.trans _ _ _ d.2 k.1,o.trans _ _ _ k.2 d.1]at this;cases this
    rw[r,wh]at i⊢;injection i
   ·rw[if_neg d,if_neg d]at i;exact i
  rw[List.length_cons,un o F];simp;omega
end
end Wl
