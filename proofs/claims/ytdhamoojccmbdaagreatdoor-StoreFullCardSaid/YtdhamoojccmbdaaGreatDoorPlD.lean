/- Part of the proofs that the laws of this seat answer true whatever the input reads, and leave it as it was; no condition. -/
import Derived.Test.YtdhamoojccmbdaaGreatDoorPlA
import Derived.Test.YtdhamoojccmbdaaGreatDoorPlB
set_option linter.unusedVariables false
set_option linter.unusedSimpArgs false
open Go.IntKind renaming bits -> qk, i64 -> vR, signed -> yI, u32 -> vT, u64 -> vU, u8 -> vS, wrap -> qc
open Int renaming emod_lt_of_pos -> z8, emod_nonneg -> wY, fdiv -> qS, fdiv_eq_ediv_of_nonneg -> yV, tmod -> zW, tmod_lt_of_pos -> va, toNat_natCast -> qp
open List renaming all_eq_false -> ye, all_eq_true -> qM, append_assoc -> qo, drop_drop -> zx, drop_of_length_le -> q9, eq_nil_of_length_eq_zero -> qW, exists_mem_of_ne_nil -> y5, ext_getElem? -> zH, filter_append -> zh, filter_cons -> zm, filter_cons_of_pos -> yJ, filter_eq_nil_iff -> wA, find?_eq_none -> wL, find?_eq_some_iff_append -> wD, flatMap_append -> zb, flatMap_nil -> wO, foldl_append -> wE, foldl_cons -> zB, foldl_nil -> wI, getD_eq_getElem?_getD -> qe, getElem?_cons_succ -> qz, getElem?_cons_zero -> yc, getElem?_eq_getElem -> qd, getElem?_eq_none -> ze, getElem?_eq_some_iff -> qm, getElem?_mapIdx -> yU, getElem?_set -> qZ, getElem?_toArray -> zM, getElem_mem -> qg, length_append -> qu, length_cons -> zi, length_drop -> qY, length_mergeSort -> wj, length_take -> qX, mem_append -> qE, mem_cons -> zc, mem_cons_self -> q8, mem_filter -> qI, mem_flatMap -> zO, mem_map -> qx, mem_mergeSort -> yt, mem_of_find?_eq_some -> y0, mem_of_mem_take -> zK, mem_or_eq_of_mem_set -> wB, mem_range -> qH, mergeSort_perm -> yk, nil_append -> zV, pairwise_append -> wQ, pairwise_cons -> zL, pairwise_iff_getElem -> zq, pairwise_mergeSort -> vh, range -> qC, range_eq_range' -> yB, range_succ -> zF, replicate -> qh, take_append_drop -> qD, take_append_of_le_length -> w9, take_left -> vj, take_length -> qR, take_of_length_le -> qi, take_succ_eq_append_getElem -> zp, take_zero -> vC, zipWith -> zj
open BitVec renaming ofInt -> qA, ofInt_natCast -> wP, ofNat -> vB, ofNat_toNat -> vd, setWidth_eq -> ve
open Nat renaming le_refl -> ql, min_eq_left -> wJ, mul_le_mul -> wb, mul_one -> wN, zero_add -> wk
open Option renaming map_some -> qO
open Go.Builtin renaming append_ -> qq, copy_ -> wT, firstCells -> wo, nextslicecap -> yT
open UInt8 renaming ofNat -> yo, toNat_inj -> yh
open Array renaming ext' -> yg, getElem?_modify -> wi, replicate -> y9, toList_map -> vt
open Bool renaming and_eq_true -> qy, and_self -> vG, false_eq_true -> zd, not_false -> wU
open Go.Value renaming int -> vL
namespace Wl
def bM(p:Int×Int×Int):Bool:=decide (p.1>=1)&&(decide (p.1<=16)&&(decide (p.2.1>=1)&&(decide (p.2.1<=4)&&(decide (p.2.2>=1)&&decide (p.2.2<=24)))))
theorem bU(p:Int×Int×Int):bM p=true↔(1<=p.1/\p.1<=16)/\(1<=p.2.1/\p.2.1<=4)/\1<=p.2.2/\p.2.2<=24:=by
 simp[bM,and_assoc]
def bX(p:Int×Int×Int):Int:=if bM p then p.1+p.2.1 else 0
open Go
def El(s:Int):Int:=qc vU (qc vU (s*(6364136223846793005:Int))+(1442695040888963407:Int))
def told(s:Int):Int:=qc vT (qS (El s) (2^min (32:Int).toNat (qk vU)))
def lj(s n:Int):Int:=qc vR (zW (qc vU (told s)) (qc vU n))
theorem wrap_u64(x:Int):qc vU x=x%18446744073709551616:=rfl
theorem uY(s n:Int)(b:0<n)(f:n<=2^62):0<=lj s n/\lj s n<n:=by
 unfold lj;have a:qc vU n=n:=by rw[wrap_u64];omega
 rw[a];have c:0<=qc vU (told s):=by rw[wrap_u64];omega
 have d:=va (qc vU (told s)) b;have e:0<=zW (qc vU (told s)) n:=Int.tmod_nonneg n c;rw[Go.Vc.wrap_small _ (by omega) (by omega)];exact⟨e,d⟩
def kr(l:List Int)(i:Nat):Int:=l.getD i 0
def sa(l:List Int)(i j:Nat):List Int:=(l.set i (kr l j)).set j (kr l i)
theorem RB(l:List Int)(i j:Nat):(sa l i j).length=l.length:=by simp[sa]
def fR(n:Nat)(s:Int)(l:List Int):Nat->Int×List Int
 |0=>(s,l)
 |k+1=>(El (fR n s l k).1,sa (fR n s l k).2 k (k+(lj (fR n s l k).1 ((n-k:Nat):Int)).toNat))
theorem uZ(n:Nat)(s:Int)(l:List Int):∀k,(fR n s l k).2.length=l.length
 |0=>rfl
 |k+1=>by rw[fR,RB,uZ n s l k]
theorem Jt{l:List Int}{i:Nat}(h:i<l.length):kr l i∈l:=by
 rw[kr,qe,qd h];exact qg h
theorem abN{l:List Int}{i j:Nat}(b:i<l.length)(c:j<l.length){x:Int}(a:x∈sa l i j):x∈l:=by
 rcases wB a with h|h
 ·rcases wB h with h|h
  ·exact h
  ·rw[h];exact Jt c
 ·rw[h];exact Jt b
def upto(n:Nat):List Int:=(qC n).map fun i:Nat=>(i:Int)
theorem gi(n:Nat):(upto n).length=n:=by simp[upto]
theorem Ju(n:Nat)(s:Int):∀k,k<=n->∀x∈(fR n s (upto n) k).2,0<=x/\x<n
 |0,_,x,hx=>by
  simp only[fR,upto,qx,qH]at hx;obtain⟨i,m,rfl⟩:=hx;omega
 |k+1,hk,x,hx=>by
  have d:k<n->n-k<=2^62->k+(lj (fR n s (upto n) k).1 ((n-k:Nat):Int)).toNat<n:=fun j l=>by
   have:=uY (fR n s (upto n) k).1 ((n-k:Nat):Int) (by omega) (by omega);omega
  have e:=uZ n s (upto n) k;rw[gi]at e;by_cases b:n-k<=2^62
  ·refine Ju n s k (by omega) x (abN (by omega) ?_ hx);have:=d (by omega) b;omega
  ·--beyond any size:what is set is 0 or a member
   have c:∀y∈sa (fR n s (upto n) k).2 k (k+(lj (fR n s (upto n) k).1 ((n-k:Nat):Int)).toNat),y∈(fR n s (upto n) k).2∨y=0:=by
    intro y f;have g:∀i,kr (fR n s (upto n) k).2 i∈(fR n s (upto n) k).2∨kr (fR n s (upto n) k).2 i=0:=fun i=>by
     by_cases h:i<(fR n s (upto n) k).2.length
     ·exact .inl (Jt h)
     ·right;simp only[kr,qe];rw[ze (by omega)];rfl
    rcases wB f with h|h
    ·rcases wB h with h|h
     ·exact .inl h
     ·rw[h];exact g _
    ·rw[h];exact g _
   rcases c x hx with h|h
   ·exact Ju n s k (by omega) x h
   ·subst h;omega
def mL(l:List Int):List Int:=l.mergeSort fun x y=>decide (x<=y)
theorem OG(l:List Int):(mL l).length=l.length:=wj l
theorem OH(l:List Int)(x:Int):x∈mL l↔x∈l:=yt
def HV(s:Int)(n k:Nat):List Int:=mL ((fR n s (upto n) k).2.take k)
theorem abO{s:Int}{n k:Nat}(b:k<=n){x:Int}(a:x∈HV s n k):0<=x/\x<n:=
 Ju n s k b x (zK ((OH _ _).1 a))
theorem abP(s:Int)(n k:Nat)(a:k<=n):(HV s n k).length=k:=by
 rw[HV,OG,qX,uZ,gi];omega
def eV(l:Nat):Nat:=if l<=1 then l else if l<=4 then 2 else if l<=9 then 3 else if l<=16 then 4 else 5
def HW(r:Nat):Nat:=if r=0 then 0 else if r=1 then 1 else if r<=3 then 2 else 3
def rq(l k:Nat):Nat:=
 (if k>1 then 1048576/(k*(k-1))else 1048576/l)+
  (if k<l/eV l then 1048576*eV l/(l*k)else if k=l/eV l then 1048576*eV l*HW (eV l)/l else 0)
def mf(l:Nat):Nat->Nat
 |0=>0
 |k+1=>mf l k+rq l (k+1)
def jf(l:Nat):List Int:=(qC l).map fun k=>((mf l (k+1):Nat):Int)
theorem kP(l:Nat):(jf l).length=l:=by simp[jf]
def Xf(t:List Int)(x:Int):Nat:=(t.findIdx fun y=>decide (y>x))+1
theorem KI:∀l,l<=20->∀k,k<=20->rq l k<=2^30:=by decide+kernel
theorem HX(l:Nat)(a:l<=20):∀k,k<=20->mf l k<=k*2^30
 |0,_=>by simp[mf]
 |k+1,hk=>by
  have:=HX l a k (by omega);have:=KI l a (k+1) hk;rw[mf];omega
theorem RC:∀l,l<=20->1<=l->0<mf l l:=by decide+kernel
theorem KJ(l:Nat)(h:1<=l):(jf l).getLast?=some ((mf l l:Nat):Int):=by
 obtain⟨k,rfl⟩:∃k,l=k+1:=⟨l-1,by omega⟩
 simp[jf,zF]
def FO(seed id:Int):Int:=qc vU (qc vT ((qA (qk vT) seed^^^(qA (qk vT) (qc vT ((qc vT id)*(2654435761:Int))))).toNat:Nat))
def HY(s:Int)(n:Nat):Nat:=Xf (jf n) (lj s (mf n n))
theorem vW(s:Int)(n:Nat)(b:1<=n)(a:n<=20):HY s n<=n:=by
 unfold HY Xf;have e:=RC n a b;have c:=HX n a n a;have d:=uY s (mf n n) (by omega) (by omega);have:=List.findIdx_lt_length_of_exists (p:=fun y=>decide (y>lj s (mf n n))) (xs:=jf n) ⟨_,List.mem_of_getLast? (KJ n b),by simpa using d.2⟩;rw[kP]at this;omega
def bR(id:Int):Bool:=decide (0<=id)&&decide (id<=65535)
def cV(n:Nat)(seed id:Int):List Int:=HV (El (El (FO seed id))) n (HY (El (FO seed id)) n)
theorem mg{n:Nat}(b:1<=n)(c:n<=20){seed id x:Int}(a:x∈cV n seed id):0<=x/\x<n:=abO (vW _ n b c) a
theorem Ak{n:Nat}(a:1<=n)(b:n<=20)(seed id:Int):(cV n seed id).length<=n:=by
 rw[cV,abP _ _ _ (vW _ n a b)];exact vW _ n a b
def fB(n:Nat)(l:List Int):List UInt8:=l.foldl (fun r i=>r.set i.toNat 1) (qh n 0)
theorem ru(n:Nat)(l:List Int):(fB n l).length=n:=by
 have:∀(l:List Int) (r:List UInt8),(l.foldl (fun r i=>r.set i.toNat 1) r).length=r.length:=by
  intro l
  induction l with
  |nil=>intro r;rfl
  |cons a t ih=>intro r;rw[zB,ih];simp
 rw[fB,this];simp
def rv(n:Nat)(seed id:Int):List UInt8:=fB n (cV n seed id)
theorem abQ(n:Nat)(seed id:Int):(rv n seed id).length=n:=ru _ _
def kQ(K H h:Nat):List UInt8:=(qC K).map (fun j=>Gf.pw ((h+1)*(j+1)%255))++(qC H).map fun i=>if i=h then 1 else 0
def bw(K H:Nat):List (List UInt8):=(qC H).map (kQ K H)
theorem FP(K H h:Nat):(kQ K H h).length=K+H:=by simp[kQ]
def dI(p:Int×Int×Int)(seed:Int)(ids:List Int):List (List UInt8):=
 if bM p then bw p.1.toNat p.2.1.toNat++(ids.filter bR).map (rv (bX p).toNat seed)else[]
theorem vX{α:Type}{f:α->Bool}{l:List α}{k:Nat}(a:k<l.length):(l.take (k+1)).filter f=if f l[k]then(l.take k).filter f++[l[k]]else(l.take k).filter f:=by
 rw[zp a,zh];by_cases h:f l[k]=true<;>simp[h]
abbrev Row:=List UInt8
abbrev aR:=List Row
def scaleB(c:UInt8)(l:Row):Row:=l.map (Gf.mul c)
def cW(c:UInt8)(a to:Row):Row:=zj (fun x y=>y^^^Gf.mul c x) a to
def aM(r:Row)(bp:Nat):UInt8:=r.getD bp 0
def az(m:aR)(i:Nat):Row:=m.getD i []
def ir(m:aR)(a bp:Nat):Option Nat:=(qC m.length).find? fun i=>decide (a<=i)&&(aM (az m i) bp !=0)
def iH(m:aR)(i j:Nat):aR:=(m.set i (az m j)).set j (az m i)
def dZ(a bp:Nat)(m:aR)(k:Nat):aR:=m.mapIdx fun i r=>if i<k/\i≠a then cW (aM r bp) (az m a) r else r
def jo(a bp:Nat)(m:aR):aR:=m.set a (scaleB (Gf.inv (aM (az m a) bp)) (az m a))
def iI(s:Nat×aR)(bp:Nat):Nat×aR:=
 match ir s.2 s.1 bp with
 |none=>s
 |some i=>(s.1+1,dZ s.1 bp (jo s.1 bp (iH s.2 s.1 i)) s.2.length)
def bC(m:aR):Nat->Nat×aR
 |0=>(0,m)
 |c+1=>iI (bC m c) c
def fG(m:aR):Nat:=(az m 0).length
def cG(m:aR):Nat:=(bC m (fG m)).1
def be(n:Nat)(m:aR):Prop:=∀r∈m,r.length=n
theorem Al(c:UInt8)(l:Row):(scaleB c l).length=l.length:=by simp[scaleB]
theorem bY{c:UInt8}{a t:Row}(h:a.length=t.length):(cW c a t).length=t.length:=by simp[cW,h]
theorem bt{m:aR}{i:Nat}(h:i<m.length):az m i=m[i]:=by rw[az,qe,qd h];rfl
theorem bZ{n:Nat}{m:aR}(h:be n m){i:Nat}(a:i<m.length):(az m i).length=n:=by rw[bt a];exact h _ (qg a)
theorem Jv{n:Nat}{m:aR}(h:be n m){i:Nat}{r:Row}(b:r.length=n):be n (m.set i r):=fun x a=>by
 rcases wB a with h1|h1
 ·exact h x h1
 ·rw[h1];exact b
theorem Xg{P:Nat->Bool}{n:Nat}(h:∀j,j<n->P j=false):(qC n).find? P=none:=by
 rw[wL];intro x a;rw[qH]at a;simp[h x a]
theorem Xh{P:Nat->Bool}{n k:Nat}(f:k<n)(h:∀j,j<k->P j=false)(d:P k=true):(qC n).find? P=some k:=by
 rw[wD];refine⟨d,qC k,List.range' (k+1) (n-k-1),?_,fun a b=>?_⟩
 ·rw[yB,yB];have c:n=k+(n-k):=by omega
  have e:n-k=(n-k-1)+1:=by omega
  conv=>lhs;rw[c,<-List.range'_append_1 (s:=0) (m:=k) (n:=n-k)]
  rw[wk]
  conv=>lhs;rw[e,List.range'_succ]
 ·rw[qH]at b;simp[h a b]
theorem se{m:aR}{a bp i:Nat}(h:ir m a bp=some i):a<=i/\i<m.length/\aM (az m i) bp≠0:=by
 have b:=List.find?_some h;have c:=y0 h;simp at b c;exact⟨b.1,c,b.2⟩
theorem Ur{m:aR}{a bp:Nat}(h:ir m a bp=none):∀i,a<=i->i<m.length->aM (az m i) bp=0:=fun i b c=>by
 have:=wL.1 h i (qH.2 c);simpa[b]using this
theorem kI(m:aR)(i j:Nat):(iH m i j).length=m.length:=by simp[iH]
theorem FQ{n:Nat}{m:aR}(h:be n m){i j:Nat}(a:i<m.length)(b:j<m.length):be n (iH m i j):=Jv (Jv h (bZ h b)) (bZ h a)
theorem nY(t c:Nat)(m:aR):(jo t c m).length=m.length:=by simp[jo]
theorem Am{n:Nat}{m:aR}(h:be n m){t c:Nat}(a:t<m.length):be n (jo t c m):=Jv h (by rw[Al];exact bZ h a)
theorem nZ(t c:Nat)(m:aR)(k:Nat):(dZ t c m k).length=m.length:=by simp[dZ]
theorem An{n:Nat}{m:aR}(h:be n m){t c k:Nat}(d:t<m.length):be n (dZ t c m k):=fun x b=>by
 obtain⟨i,e,rfl⟩:=List.mem_mapIdx.1 b;have a:=h _ (qg e);split
 ·rw[bY (by rw[bZ h d,a])];exact a
 ·exact a
theorem Zj(t c:Nat)(m:aR):dZ t c m 0=m:=by
 apply zH;intro i;simp[dZ,yU]
theorem rx{t c k:Nat}{m:aR}{i:Nat}(a:i<m.length):az (dZ t c m k) i=if i<k/\i≠t then cW (aM (az m i) c) (az m t) (az m i)else az m i:=by
 rw[bt (by rw[nZ];exact a),bt a];simp[dZ]
theorem Zk{t c k:Nat}{m:aR}(b:k<m.length)(d:k≠t):dZ t c m (k+1)=(dZ t c m k).set k (cW (aM (az m k) c) (az m t) (az m k)):=by
 apply zH;intro i;simp only[dZ,qZ,yU,List.length_mapIdx];by_cases a:k=i
 ·subst a;simp only[if_true,b,qd b,qO];rw[if_pos ⟨by omega,d⟩,bt b]
 ·rw[if_neg a];congr 1;funext r;by_cases h:i<k/\i≠t
  ·rw[if_pos h,if_pos ⟨by omega,h.2⟩]
  ·rw[if_neg h,if_neg (fun e=>h ⟨by omega,e.2⟩)]
theorem Zl{t c:Nat}{m:aR}:dZ t c m (t+1)=dZ t c m t:=by
 apply zH;intro i;simp only[dZ,yU];congr 1;funext r;by_cases h:i<t/\i≠t
 ·rw[if_pos h,if_pos ⟨by omega,h.2⟩]
 ·rw[if_neg h,if_neg (fun a=>h ⟨by omega,a.2⟩)]
theorem Zm{n:Nat}{s:Nat×aR}(h:be n s.2)(bp:Nat):be n (iI s bp).2/\(iI s bp).2.length=s.2.length:=by
 unfold iI;cases hb:ir s.2 s.1 bp with
 |none=>exact⟨h,rfl⟩
 |some i=>
  have a:=se hb;dsimp only;refine⟨An (Am (FQ h (by omega) a.2.1) (by rw[kI];omega)) (by rw[nY,kI];omega),by rw[nZ,nY,kI]⟩
theorem ia{n:Nat}{m:aR}(h:be n m):∀c,be n (bC m c).2/\(bC m c).2.length=m.length
 |0=>⟨h,rfl⟩
 |c+1=>by
  have:=ia h c;have a:=Zm this.1 c;rw[bC];exact⟨a.1,by rw[a.2,this.2]⟩
theorem abR{s:Nat×aR}(h:s.1<=s.2.length)(bp:Nat):(iI s bp).1<=(iI s bp).2.length:=by
 unfold iI;cases hb:ir s.2 s.1 bp with
 |none=>exact h
 |some i=>
  have a:=se hb;dsimp only;rw[nZ,nY,kI];omega
theorem Dm(m:aR):∀c,(bC m c).1<=(bC m c).2.length
 |0=>by simp[bC]
 |c+1=>abR (Dm m c) c
end Wl
namespace Go.Vc
open Go
section
variable {C:Ctx} {t t2 ty e k:Nat} {z:List Value} {by_:Nat} {α:Type} {h h0:Heap} {p B:aA} {s v:Sl} {f:α->List Value} {l l2:List α} {As:List HP}
theorem Own.RD(Q:C.Ok)(O:bN C.toBR t e k z by_)(F:∀x,(f x).length=k)(A:Own h e s k f l)(R:Seq h p v k f l2)(w:∀x,∀c∈f x,c.oneCell'=true)(j:Nat)(U:j<=l.length){B:Option Addr}{M X:Nat}(i:B=if s.cap=j then s.ptr else s.ptr.map (·.add (j*k)))(q:M=s.len-j){K:Int->Heap->Prop}
  (E:∀n h',Own h' e s k f (l.take j++(l2.take (l.length-j)++l.drop (j+l2.length)))->aU (fun b=>¬s.on b) h h'->K n h'):
  aw C.P (wT #[t,t2] ty #[.slice B M X,.slice v.ptr v.len v.cap]) (.one (.sc (.int .i64))) h K:=by
 unfold aw wT;simp only[zM,yc,qz];refine ag.bind (ag.always (aN (O.under Q)) ?_);refine ag.bind (ag.pure' ?_);refine ag.bind (ag.always (O.size Q) ?_);have g:=A.len;have r:=R.len;have N:=A.cap;obtain⟨m,D⟩:∃m,m=Nat.min v.len M:=⟨_,rfl⟩
 rw[<-D];have L:m<=l2.length:=by rw[D,<-r];exact Nat.min_le_left _ _
 have o:m<=l.length-j:=by rw[D,<-g,q];exact Nat.min_le_right _ _
 have T:m=min l2.length (l.length-j):=by rw[D,q,g,r]
 have G:=R.take m L;have S:l2.take (l.length-j)++l.drop (j+l2.length)=l2.take m++l.drop (j+m):=by
  rcases Nat.le_total l2.length (l.length-j)with hh|hh
  ·rw[qi hh,show m=l2.length by omega,qR]
  ·rw[show m=l.length-j by omega,q9 (show l.length<=j+l2.length by omega),q9 (by omega)]
 rw[S]at E;have H:wo k m (.slice v.ptr v.len v.cap)=wo k m (.slice v.ptr m v.cap):=by cases v.ptr<;>rfl
 rw[H];refine ag.bind (fT (v:=⟨v.ptr,m,v.cap⟩) F G ?_);have d:m=0->l.take j++(l2.take m++l.drop (j+m))=l:=fun e=>by rw[e];simp
 rcases A.head with⟨h1,h2,h3⟩|⟨b,rest,h1,h2,h3,h4⟩
 ·have a:B=none:=by rw[i,h1];split<;>rfl
  rw[a];subst h3;have:m=0:=by simp at o;exact o
  refine ag.pure' ⟨_,rfl,E _ h ?_ (aU.refl _ _)⟩;rw[d this];exact A
 ·by_cases u:s.cap=j
  ·have a:B=some ⟨b,0,none⟩:=by rw[i,if_pos u,h1]
   rw[a];have y:m=0:=by omega
   refine ag.bind ?_;rw[y];simp only[vC,wO];exact ag.pure' (ag.pure' ⟨_,rfl,E _ h (by rw[d y];exact A) (aU.refl _ _)⟩)
  ·have a:B=some ⟨b,0+j*k,none⟩:=by rw[i,if_neg u,h1];simp only[qO];rw[add_eq]
   rw[a];refine ag.bind ?_;have I:l.flatMap f++rest=(l.take j).flatMap f++((l.drop j).take m).flatMap f++((l.drop (j+m)).flatMap f++rest):=by
    rw[<-qo,<-zb,<-zb,<-zx,qo (List.take j l),qD,qD]
   rw[I]at h2;refine eN (e:=e) (pre:=(l.take j).flatMap f) (old:=((l.drop j).take m).flatMap f) (post:=(l.drop (j+m)).flatMap f++rest) h2 (by rw[cX F,cX F,qX,qX,qY];congr 1;omega) (by rw[cX F,qX];rw[wJ U];omega) ?_ ?_
   ·intro c W;obtain⟨x,_,J⟩:=zO.1 W;exact w x c J
   ·refine ag.pure' ⟨_,rfl,E _ _ ⟨by rw[g,qu,qu,qX,qX,qY];omega,.inr ⟨b,rest,h1,?_,h3,h4⟩⟩ (aU.je h2 (fun V=>V ⟨0,h1⟩))⟩;rw[gV h2,if_pos rfl,zb,zb];simp[qo]
theorem aa.RD(w:C.Ok)(H:aa B h0 h As)(i:Nat)(g:As[i]?=some (an e s k f l))(q:bN C.toBR t e k z by_)(D:∀x,(f x).length=k)(A:Seq h p v k f l2)(a:∀x,∀c∈f x,c.oneCell'=true)(j:Nat)(u:j<=l.length){o:Option Addr}{m E:Nat}(d:o=if s.cap=j then s.ptr else s.ptr.map (·.add (j*k)))(b:m=s.len-j){K:Int->Heap->Prop}
  (r:∀n h',aa B h0 h' (As.set i (an e s k f (l.take j++(l2.take (l.length-j)++l.drop (j+l2.length)))))->K n h'):
  aw C.P (wT #[t,t2] ty #[.slice o m E,.slice v.ptr v.len v.cap]) (.one (.sc (.int .i64))) h K:=
 (H.own i g).RD w q D A a j u d b fun n h' x y=>r n h' (H.oq i g y x)
end
end Go.Vc
namespace Wl
open Go
def b8(n:Int):UInt8:=yo (n%256).toNat
theorem dM(n:Int):qc vS n=((b8 n).toNat:Int):=by
 have h0:=wY n (show(256:Int)≠0 by decide);have a:=z8 n (show(0:Int)<256 by decide);have e:((b8 n).toNat:Int)=n%256:=by
  unfold b8;rw[UInt8.toNat_ofNat'];omega
 rw[e];unfold qc;simp[qk,yI]
abbrev sq:=BitVec 32
def KK(s:sq):sq:=if s&&&1#32=1#32 then(s>>>1)^^^3988292384#32 else s>>>1
def BX:Nat->sq->sq
 |0,s=>s
 |n+1,s=>KK (BX n s)
def Wi(s:sq)(x:UInt8):sq:=BX 8 (s^^^vB 32 x.toNat)
def uh(l:List UInt8):sq:=l.foldl Wi 4294967295#32
def BY(l:List UInt8):sq:=4294967295#32^^^uh l
theorem Xi(l:List UInt8)(x:UInt8):uh (l++[x])=Wi (uh l) x:=by unfold uh;rw[wE];rfl
theorem RE(s:sq):qc vT ((s.toNat:Nat):Int)=(s.toNat:Int):=by
 have:=s.isLt;unfold qc;simp[qk,yI];omega
theorem Xj(a b:sq):qc vT ((qA (qk vT) (a.toNat:Int)^^^qA (qk vT) (b.toNat:Int)).toNat:Nat)=((a^^^b).toNat:Int):=by
 show qc vT (((qA 32 (a.toNat:Int)^^^qA 32 (b.toNat:Int):BitVec 32).toNat:Nat):Int)=_;rw[wP,wP,vd,vd,ve,ve,RE]
theorem agp(a b:sq):qc vT ((qA (qk vT) (a.toNat:Int)&&&qA (qk vT) (b.toNat:Int)).toNat:Nat)=((a&&&b).toNat:Int):=by
 show qc vT (((qA 32 (a.toNat:Int)&&&qA 32 (b.toNat:Int):BitVec 32).toNat:Nat):Int)=_;rw[wP,wP,vd,vd,ve,ve,RE]
theorem OI(n:Int):qc vT n=((qA 32 n).toNat:Int):=by
 unfold qc;simp[qk,yI,BitVec.toNat_ofInt];omega
theorem aed(s:sq):qS (s.toNat:Int) (2^min (1:Int).toNat (qk vT))=((s>>>1).toNat:Int):=by
 rw[show min (1:Int).toNat (qk vT)=1 from rfl,yV _ (by decide),BitVec.toNat_ushiftRight,Nat.shiftRight_eq_div_pow];simp
theorem Wj(s:sq):((s&&&1#32).toNat:Int)=1↔s&&&1#32=1#32:=by
 constructor
 ·intro h;apply BitVec.eq_of_toNat_eq;have:(1#32:sq).toNat=1:=rfl;omega
 ·intro h;rw[h];rfl
def oa(s:sq):List UInt8:=(qC 4).map fun i=>b8 (qS (s.toNat:Int) (2^(8*i)))
theorem RF(s:sq):(oa s).length=4:=by simp[oa]
def dE(b:Int)(a:List UInt8):List UInt8:=[87,115,1,b8 b]++a++qh (55-a.length) 0
def dW(a:Int)(b:List UInt8):List UInt8:=
 if 1<=a/\a<=255/\b.length<=55 then dE a b++oa (BY (dE a b))++[165]else[]
theorem FR{b:Int}{a:List UInt8}(h:a.length<=55):(dE b a).length=59:=by simp[dE];omega
theorem nF{a:Int}{b:List UInt8}(c:1<=a)(d:a<=255)(h3:b.length<=55):(dW a b).length=64:=by
 unfold dW;rw[if_pos ⟨c,d,h3⟩];simp[FR h3,RF]
end Wl
namespace Go.Vc
open Go
def iz(s:ByteArray):List UInt8:=s.data.toList
theorem Dn(s:ByteArray):(iz s).length=s.size:=rfl
def agG(n:Nat):Obj->Obj
 | .cells c elem (lo,hi)=>.cells c elem (if lo==hi then(n,n+1)else(min lo n,max hi (n+1)))
 |o=>o
theorem ag.Zn{P:Program}{h:Heap}{b n:Nat}{c:Array Value}{e:TypeId}{K:Unit->Heap->Prop}(i:h[b]?=some (.cells c e (0,0)))(k:n=c.size)(g:∀h',(∀x,x≠b->h'[x]?=h[x]?)->h'.size=h.size->(∃f,h'[b]?=some (.cells c e f))->K () h'):
  ag P (freeze {block:=b,off:=n} 1) h K:=fun w j=>by
 refine⟨(),w.freeze {block:=b,off:=n} 1,run_freeze P w _ _,⟨rfl,rfl,rfl,ql _⟩,?_⟩;subst j;have a:(w.freeze {block:=b,off:=n} 1).heap=w.heap.modify b (agG n):=rfl;refine g _ (fun x d=>?_) ?_ ?_
 ·rw[a,wi,if_neg (fun e=>d e.symm)]
 ·rw[a];simp
 ·rw[a,wi,if_pos rfl,i];exact⟨_,rfl⟩
section
variable {C:Ctx} {B:aA} {h h0:Heap} {As:List HP} {t e ts:Nat}
theorem aee(k:C.Ok)(p:∃i,C.T.get ts=some i/\i.cE=.str)(B:∃i,C.T.get t=some i/\i.cE=.slice e)(y:∃i,C.T.get e=some i/\i.cE=.int .u8)(s:ByteArray){K:Sl->Heap->Prop}(G:∀r h',Sp h h' [tu r 1 aC (iz s)]->K r h'):
  aw C.P (convert ts t (.string s)) (.one (.sc .slc)) h K:=by
 obtain⟨L,E,I⟩:=p;obtain⟨M,H,F⟩:=B;obtain⟨i3,a3,z⟩:=y;have u:C.P.underlying ts=some .string:=by have:=k.cE E;rw[I]at this;exact uH this
 have q:C.P.underlying t=some (.slice e):=by have:=k.cE H;rw[F]at this;exact iS this
 have u3:C.P.underlying e=some (.int .u8):=by have:=k.cE a3;rw[z]at this;exact HL this
 unfold aw convert;refine ag.bind (ag.always (aN u) ?_);refine ag.bind (ag.always (aN q) ?_);refine ag.bind (ag.always (aN u3) ?_);unfold Conv.stringToBytes;refine ag.bind (ag.MR ⟨fun D=>(by cases D),fun _ w=>?_⟩);generalize l:Question.cut (Question.appendCap s.size 0 e) w=cc;have n:s.size<=cc:=by rw[<-l];simp only[Question.cut];omega
 unfold newRow;refine ag.bind (ag.bind (ag.rk (ag.pure' ?_)));unfold markStringish;obtain⟨a,d⟩:∃a:Array Value,a=s.data.map (fun b=>Value.int .u8 b.toNat)++y9 (cc-s.size) (Value.int .u8 0):=⟨_,rfl⟩
 rw[<-d];refine ag.bind (ag.bind (ag.aeZ ?_));have g:shapeOf (h.push (.cells a e)) h.size=some (e,a.size):=by unfold shapeOf;simp
 dsimp only;rw[g];refine ag.Zn (c:=a) (e:=e) (by simp) rfl fun h' A m j=>?_;refine ag.pure' ⟨⟨some ⟨h.size,0,none⟩,s.size,cc⟩,rfl,G _ _ ?_⟩;obtain⟨f,j⟩:=j;refine .one ⟨by rw[m];simp,fun b J _=>by rw[A b (by omega),Array.getElem?_push,if_neg (by omega)]⟩ ?_;refine⟨by rw[Dn],fun i x o=>⟨h.size,0,rfl,⟨ql _,by rw[m];simp⟩,?_,trivial⟩⟩;rw[add_zero];have v:i<s.data.size:=by have:=(qm.1 o).1;simpa[iz]using this
 unfold cellOf;simp only[j,wN,wk,Option.isSome_none,zd,if_false];rw[d,Array.getElem?_append_left (by simpa using v),Array.getElem?_map];have:s.data[i]?=some x:=by rw[<-o];simp[iz]
 rw[this];rfl
end
section
variable {C:Ctx} {t t2 e k:Nat} {z:List Value} {by_:Nat} {h h0:Heap} {B:aA} {As:List HP} {s:Sl} {l:List UInt8}
theorem PK(u:C.Ok)(D:bN C.toBR t e 1 z by_)(U:∃i,C.T.get t2=some i/\i.cE=.str)(Q:z.length=1)(H:0<by_/\by_<=128)
  (v:Own h e s 1 aC l) (x:ByteArray) (O:l.length+x.size<=2^32) {ty:Nat} {K:Sl->Heap->Prop}
  (F:∀B h',Own h' e B 1 aC (l++iz x)->aU (fun b=>¬s.on b) h h'->(∀b,B.on b->s.on b∨h.size<=b)->K B h'):
  aw C.P (qq #[t,t2] ty #[.slice s.ptr s.len s.cap,.string x]) (.one (.sc .slc)) h K:=by
 obtain⟨i2,g1,g2⟩:=U;have G:C.P.underlying t2=some .string:=by have:=u.cE g1;rw[g2]at this;exact uH this
 obtain⟨L,r,x2,x3,Z,x4,x5⟩:=D.info u;have q:∀y∈(iz x).flatMap aC,y.oneCell'=true:=fun y S=>by
  obtain⟨b,_,X⟩:=zO.1 S;exact ge b y X
 have g:((x.extract 0 x.size).data.map fun b=>Value.int .u8 (b.toNat:Int))=((iz x).flatMap aC).toArray:=by
  have W:x.extract 0 x.size=x:=by
   apply ByteArray.ext;simp[ByteArray.data_extract]
  rw[W];apply yg;simp only[vt,iz];exact List.map_eq_flatMap
 unfold aw qq;simp only[zM,yc,qz];refine ag.bind (ag.always (aN (D.under u)) ?_);refine ag.bind (ag.always (D.size u) ?_);refine ag.bind (ag.always (aN G) ?_);refine ag.bind (ag.pure' ?_);simp only[zd,if_false,wU,if_true];refine ag.bind (ag.pure' ?_);have p:=v.len;have w:∀y,(aC y).length=1:=fun _=>rfl;have j:=cX w l;have a:=cX w (iz x);have ab:=Dn x;have k:∀{h:Heap} {K:Array Value->Heap->Prop},K ((iz x).flatMap aC).toArray h->ag C.P (wo 1 x.size (.string x)) h K:=fun{h K} hK=>by
  unfold wo;dsimp only;rw[g];exact ag.pure' hK
 by_cases d:s.len+x.size<=s.cap
 ·rw[if_pos d];refine ag.bind (k ?_);rcases v.head with⟨p1,p2,p3⟩|⟨b,rest,p1,p2,p3,p4⟩
  ·rw[p1];have A:iz x=[]:=qW (by omega);refine ag.pure' ⟨⟨none,s.len+x.size,s.cap⟩,rfl,F _ _ ⟨?_,.inl ⟨rfl,p2,by simp[p3,A]⟩⟩ (aU.refl _ _) ?_⟩
   ·simp;omega
   ·rintro N ⟨o,f⟩;cases f
  ·rw[p1];refine ag.bind ?_;rw[add_eq,wk];have E:((iz x).flatMap aC).length<=rest.length:=by
    rw[a,p3];omega
   refine eN (e:=e) (pre:=l.flatMap aC) (old:=rest.take ((iz x).flatMap aC).length) (post:=rest.drop ((iz x).flatMap aC).length) ?_ ?_ ?_ ?_ ?_
   ·rw[qo,qD];exact p2
   ·rw[qX];exact wJ E
   ·rw[j,p];omega
   ·intro c hc;exact q c (by simpa using hc)
   ·refine ag.pure' ⟨⟨some ⟨b,0,none⟩,s.len+x.size,s.cap⟩,rfl,F _ _ ⟨?_,.inr ⟨b,rest.drop ((iz x).flatMap aC).length,rfl,?_,?_,d⟩⟩ ?_ ?_⟩
    ·simp;omega
    ·rw[gV p2,if_pos rfl];simp
    ·rw[qY,p3,a];show(s.cap-s.len)*1-(iz x).length*1=(s.cap-(s.len+x.size))*1;omega
    ·exact aU.je p2 (fun hn=>hn ⟨0,p1⟩)
    ·rintro N ⟨o,f⟩;cases f;exact .inl ⟨0,p1⟩
 ·rw[if_neg d];have n:Seq h (fun _=>True) s 1 aC l:=v.seq w (fun _ _=>trivial);have M:=v.cap;refine ag.bind (ag.always (cR r) ?_);rw[if_neg (fun hh=>by rcases hh.2 with h|h<;>first|exact h|(rw[x3]at h;omega))];refine ag.bind (ag.always (cR r) ?_);have Y:=We (s.len+x.size) s.cap (by omega);rw[if_neg (by
   have:yT (s.len+x.size) s.cap*L.bytes<=(16*2^32+16*768)*128:=wb (by omega) (by rw[x3];exact H.2);omega)]
  refine ag.bind (ag.MR ⟨fun V=>(by cases V),fun _ R=>?_⟩);refine ag.bind (ag.always (cR r) ?_);refine ag.bind (ag.Jl ?_);refine ag.bind (fT w n ?_);refine ag.bind (k ?_);have I:aI C.P (zeroValue e) Z:=(cR r).bind (by rw[x4];exact .pure);refine ag.bind (ag.always I ?_);rw[x5,FG];unfold newRow;refine ag.bind (ag.bind (ag.rk (ag.pure' (ag.pure' ?_))));generalize J:Question.cut (Question.appendCap (s.len+x.size) s.cap e) R=cc;have m:s.len+x.size<=cc:=by rw[<-J];simp only[Question.cut];omega
  refine⟨⟨some ⟨h.size,0,none⟩,s.len+x.size,cc⟩,rfl,F _ _ ⟨?_,.inr ⟨h.size,ij z (cc-(s.len+x.size)),rfl,?_,?_,m⟩⟩ (aU.push _ _ _) ?_⟩
  ·simp;omega
  ·simp
  ·rw[nW,Q]
  ·rintro N ⟨o,f⟩;cases f;exact .inr (ql _)
theorem aa.Zo(D:C.Ok)(H:aa B h0 h As)(i:Nat)(p:As[i]?=some (an e s 1 aC l))(u:bN C.toBR t e 1 z by_)(v:∃i,C.T.get t2=some i/\i.cE=.str)(q:z.length=1)(k:0<by_/\by_<=128)
  (x:ByteArray) (g:l.length+x.size<=2^32) {ty:Nat} {K:Sl->Heap->Prop} (A:∀f h',aa B h0 h' (As.set i (an e f 1 aC (l++iz x)))->K f h'):
  aw C.P (qq #[t,t2] ty #[.slice s.ptr s.len s.cap,.string x]) (.one (.sc .slc)) h K:=by
 obtain⟨y,w,c,r,a⟩:=H;have j:=a i _ p;refine PK D u v q k j.1 x g fun f h' d n o=>A f h' ?_;refine aa.Dj y w r a (n.mono fun b m E F=>E (j.2 b F)) ⟨d,fun b m=>⟨d.lt m,?_⟩⟩;rcases o b m with h1|h1
 ·exact .inl (j.2 b h1)
 ·exact .inr h1
end
end Go.Vc
namespace Wl
open Go
structure bW where
 name:ByteArray
 object:Int
 length:Int
 tries:List Int
structure aG where
 seq:Int
 next:Int
 p:Int×Int×Int
 extra:Int
 drives:List Int
 objs:List bW
def agq:bW:=⟨⟨#[]⟩,0,0,[]⟩
def oY(l:List bW)(i:Nat):bW:=l.getD i agq
theorem oc{l:List bW}{i:Nat}(h:i<l.length):oY l i=l[i]:=by unfold oY;rw[qe,qd h];rfl
def eS(n a b:Int):Bool:=decide (a<=n)&&decide (n<=b)
def mh(c:UInt8):Bool:=(decide (97<=c.toNat)&&decide (c.toNat<=122))||(decide (48<=c.toNat)&&decide (c.toNat<=57))||decide (c.toNat=45)
def jF(s:ByteArray):Bool:=s.data.toList.all mh&&(decide (1<=s.size)&&decide (s.size<=12))
def ez(a b:ByteArray):Bool:=Op.bytesLess a.toList b.toList
def jg(l:List Int)(a:Int)(i:Nat):Bool:=eS (l.getD i 0) 0 a&&(decide (i=0)||decide (l.getD (i-1) 0<l.getD i 0))
def oZ(l:List Int)(a:Int):Bool:=(qC l.length).all (jg l a)
def countP(p:Int×Int×Int)(n:Int):Int:=if bM p&&decide (0<n)then(n-1)/(p.1*p.2.2)+1 else 0
def gj(m:aG)(x:bW):Bool:=
 jF x.name&&(eS x.object 0 (m.next-1)&&(eS x.length 0 (m.p.1*m.p.2.2*8)&&(x.tries.all (eS · 0 15)&&decide ((x.tries.length:Int)=countP m.p x.length))))
def pc(m:aG)(i:Nat):Bool:=
 gj m (oY m.objs i)&&((decide (i=0)||ez (oY m.objs (i-1)).name (oY m.objs i).name)&&!(m.objs.take i).any fun y=>decide (y.object=(oY m.objs i).object))
def ki(m:aG):Bool:=eS m.seq 1 2147483647&&(eS m.next 0 16777216&&(bM m.p&&eS m.extra 0 16))
def bS(m:aG):Bool:=ki m&&(oZ m.drives 63&&(decide (m.objs.length<=12)&&(qC m.objs.length).all (pc m)))
theorem FS{p:Nat->Bool}{n i:Nat}(a:i<n)(h:p i=false):(qC n).all p=false:=ye.2 ⟨i,qH.2 a,by rw[h];simp⟩
theorem tw{p:Nat->Bool}{n:Nat}(h:∀i,i<n->p i=true):(qC n).all p=true:=qM.2 fun i a=>h i (qH.1 a)
def bJ(n:Int)(k:Nat):List UInt8:=(qC k).map fun i=>b8 (qS n (2^(8*(k-1-i))))
theorem ci(n:Int)(k:Nat):(bJ n k).length=k:=by simp[bJ]
def iJ(x:bW):List UInt8:=b8 x.name.size::(x.name.data.toList++(bJ x.object 3++(bJ x.length 2++x.tries.map b8)))
def ga(m:aG):List UInt8:=
 if bS m then bJ m.seq 4++(bJ m.next 4++([b8 m.p.1,b8 m.p.2.1,b8 m.p.2.2,b8 m.extra,b8 m.drives.length]++(m.drives.map b8++(b8 m.objs.length::m.objs.flatMap iJ))))else[]
def jA(seq a c:Int)(b:List UInt8):List UInt8:=dW 2 (bJ seq 4++([b8 a,b8 c,b8 b.length]++b))
def gM(b:List UInt8):Nat:=(b.length+47)/48
def bh(m:aG):List (List UInt8):=(qC (gM (ga m))).map fun i:Nat=>jA m.seq i (gM (ga m)) (((ga m).drop (48*i)).take 48)
theorem Zp{m:aG}(h:bS m=true):ki m=true:=by unfold bS at h;simp at h;exact h.1
theorem RG{m:aG}(h:ki m=true):(1<=m.seq/\m.seq<=2147483647)/\(0<=m.next/\m.next<=16777216)/\bM m.p=true/\0<=m.extra/\m.extra<=16:=by
 unfold ki eS at h;simpa[and_assoc]using h
theorem Do{m:aG}{c:List UInt8}(h:c∈bh m):c.length=64:=by
 unfold bh at h;obtain⟨i,_,rfl⟩:=qx.1 h;exact nF (by decide) (by decide) (by simp[ci];omega)
structure dj where
 object:Int
 block:Int
 id:Int
 p:Int×Int×Int
 seed:Int
 data:List UInt8
theorem su(n:Int):((b8 n).toNat:Int)=n%256:=by
 have h0:=wY n (show(256:Int)≠0 by decide);have a:=z8 n (show(0:Int)<256 by decide);unfold b8;rw[UInt8.toNat_ofNat'];omega
def iK(r:dj):Bool:=(eS r.object 0 16777215&&(eS r.block 0 7&&bR r.id))&&(bM r.p&&decide ((r.data.length:Int)=r.p.2.2))
def it(r:dj):List UInt8:=bJ r.object 3++(bJ r.block 1++(bJ r.id 2++([b8 r.p.1,b8 r.p.2.1,b8 r.p.2.2]++(bJ r.seed 4++r.data))))
def dJ(r:dj):List UInt8:=if iK r then dW 1 (it r)else[]
def cT(l:List UInt8):Int:=l.foldl (fun n x=>n*256+x.toNat) 0
def jG(c:List UInt8):Option (Int×List UInt8):=
 if c.length=64/\dW ((c.getD 3 0).toNat:Int) ((c.drop 4).take 55)=c then some (((c.getD 3 0).toNat:Int),(c.drop 4).take 55)else none
def ui(x:List UInt8):dj:=
 ⟨cT (x.take 3),cT ((x.drop 3).take 1),cT ((x.drop 4).take 2),(cT ((x.drop 6).take 1),cT ((x.drop 7).take 1),cT ((x.drop 8).take 1)),cT ((x.drop 9).take 4),(x.drop 13).take (cT ((x.drop 8).take 1)).toNat⟩
def dL(c:List UInt8):Option dj:=
 match jG c with
 |some (k,x)=>if k=1/\bM (ui x).p=true/\dJ (ui x)=c then some (ui x)else none
 |none=>none
theorem Zq(n:Int):bJ n 1=[b8 n]:=by simp[bJ]
theorem Zr(n:Int):bJ n 2=[b8 (qS n (2^8)),b8 n]:=by simp[bJ,zF]
theorem Us(n:Int):bJ n 3=[b8 (qS n (2^16)),b8 (qS n (2^8)),b8 n]:=by simp[bJ,zF]
theorem KL(n:Int):bJ n 4=[b8 (qS n (2^24)),b8 (qS n (2^16)),b8 (qS n (2^8)),b8 n]:=by simp[bJ,zF]
theorem Dp{n:Int}(a:0<=n)(b:n<256):cT [b8 n]=n:=by
 simp only[cT,zB,wI,su];omega
theorem fdiv_pow(n:Int)(k:Nat):qS n (2^k)=n/(2^k):=yV _ (Int.pow_nonneg (by decide))
theorem abS{n:Int}(a:0<=n)(b:n<65536):cT (bJ n 2)=n:=by
 rw[Zr,fdiv_pow];simp only[cT,zB,wI,su];omega
theorem Xk{n:Int}(a:0<=n)(b:n<16777216):cT (bJ n 3)=n:=by
 rw[Us,fdiv_pow,fdiv_pow];simp only[cT,zB,wI,su];omega
theorem OJ{n:Int}(a:0<=n)(b:n<4294967296):cT (bJ n 4)=n:=by
 rw[KL,fdiv_pow,fdiv_pow,fdiv_pow];simp only[cT,zB,wI,su];omega
theorem jV(r:dj):iK r=true↔(0<=r.object/\r.object<=16777215)/\(0<=r.block/\r.block<=7)/\(0<=r.id/\r.id<=65535)/\bM r.p=true/\(r.data.length:Int)=r.p.2.2:=by
 unfold iK eS bR;simp[and_assoc]
theorem ot{r:dj}(h:iK r=true):(it r).length=13+r.data.length/\r.data.length<=24:=by
 obtain⟨_,_,_,a,b⟩:=(jV r).1 h;have:=(bU r.p).1 a;refine⟨by unfold it;simp[ci];omega,by omega⟩
theorem RH{r:dj}(h:iK r=true):(dJ r).length=64:=by
 have:=ot h;unfold dJ;rw[if_pos h];exact nF (by decide) (by decide) (by omega)
theorem Ao{k:Int}{a:List UInt8}(c:1<=k)(d:k<=255)(h3:a.length<=55):jG (dW k a)=some (k,a++qh (55-a.length) 0):=by
 obtain⟨x,b⟩:∃x,x=a++qh (55-a.length) 0:=⟨_,rfl⟩
 have e:x.length=55:=by rw[b];simp;omega
 have f:dW k a=[87,115,1,b8 k]++(x++(oa (BY (dE k a))++[165])):=by
  unfold dW;rw[if_pos ⟨c,d,h3⟩];unfold dE;rw[b];simp[qo]
 have g:((dW k a).getD 3 0)=b8 k:=by rw[f];rfl
 have l:((dW k a).drop 4).take 55=x:=by
  rw[f];have:([87,115,1,b8 k]++(x++(oa (BY (dE k a))++[165]))).drop 4=x++(oa (BY (dE k a))++[165]):=rfl;rw[this,w9 (by omega),qi (by omega)]
 have i:((b8 k).toNat:Int)=k:=by rw[su];omega
 have j:dE k x=dE k a:=by
  unfold dE;rw[e,b];simp[qo]
 have h:dW k x=dW k a:=by
  unfold dW;rw[if_pos ⟨c,d,by omega⟩,if_pos ⟨c,d,h3⟩,j]
 unfold jG;rw[g,l,i,if_pos ⟨nF c d h3,h⟩,b]
theorem Xl{r:dj}(h:iK r=true)(t:0<=r.seed/\r.seed<4294967296)(z:List UInt8):ui (it r++z)=r:=by
 obtain⟨A,w,h3,s,y⟩:=(jV r).1 h;have x:=(bU r.p).1 s;have l1:=ci r.object 3;have l2:=ci r.id 2;have i:=ci r.seed 4;have e:it r++z=bJ r.object 3++([b8 r.block]++(bJ r.id 2++([b8 r.p.1]++([b8 r.p.2.1]++([b8 r.p.2.2]++(bJ r.seed 4++(r.data++z))))))):=by
  unfold it;rw[Zq];simp[qo]
 have b:∀(u v:List UInt8) (n:Nat),u.length=n->∀m,(u++v).drop (n+m)=v.drop m:=fun u v n c m=>by
  rw[<-zx,<-c,List.drop_left]
 have a:∀(u v:List UInt8) (n:Nat),u.length=n->(u++v).take n=u:=fun u v n c=>by rw[<-c,vj]
 have l:(it r++z).drop 3=[b8 r.block]++(bJ r.id 2++([b8 r.p.1]++([b8 r.p.2.1]++([b8 r.p.2.2]++(bJ r.seed 4++(r.data++z)))))):=by rw[e];exact b _ _ 3 l1 0
 have j:(it r++z).drop 4=bJ r.id 2++([b8 r.p.1]++([b8 r.p.2.1]++([b8 r.p.2.2]++(bJ r.seed 4++(r.data++z))))):=by
  rw[show 4=3+1 from rfl,<-zx,l];rfl
 have o:(it r++z).drop 6=[b8 r.p.1]++([b8 r.p.2.1]++([b8 r.p.2.2]++(bJ r.seed 4++(r.data++z)))):=by
  rw[show 6=4+2 from rfl,<-zx,j];exact b _ _ 2 l2 0
 have k:(it r++z).drop 7=[b8 r.p.2.1]++([b8 r.p.2.2]++(bJ r.seed 4++(r.data++z))):=by
  rw[show 7=6+1 from rfl,<-zx,o];rfl
 have f:(it r++z).drop 8=[b8 r.p.2.2]++(bJ r.seed 4++(r.data++z)):=by
  rw[show 8=7+1 from rfl,<-zx,k];rfl
 have g:(it r++z).drop 9=bJ r.seed 4++(r.data++z):=by
  rw[show 9=8+1 from rfl,<-zx,f];rfl
 have d:(it r++z).drop 13=r.data++z:=by
  rw[show 13=9+4 from rfl,<-zx,g];exact b _ _ 4 i 0
 have q:cT (((it r++z).drop 8).take 1)=r.p.2.2:=by rw[f,a _ _ 1 rfl,Dp (by omega) (by omega)]
 unfold ui;rw[q,l,j,o,k,g,d];rw[a [b8 r.block] _ 1 rfl,a _ _ 2 l2,a [b8 r.p.1] _ 1 rfl,a [b8 r.p.2.1] _ 1 rfl,a _ _ 4 i];have t0:(it r++z).take 3=bJ r.object 3:=by rw[e];exact a _ _ 3 l1
 rw[t0,Xk (by omega) (by omega),Dp (by omega) (by omega),abS (by omega) (by omega),Dp (by omega) (by omega),Dp (by omega) (by omega),OJ (by omega) (by omega)];have:r.p.2.2.toNat=r.data.length:=by omega
 rw[this,vj]
theorem sv{r:dj}(h:iK r=true)(a:0<=r.seed/\r.seed<4294967296):dL (dJ r)=some r:=by
 have c:=ot h;have b:=((jV r).1 h).2.2.2.1;have e:dJ r=dW 1 (it r):=by unfold dJ;rw[if_pos h]
 unfold dL;rw[e,Ao (by decide) (by decide) (by omega)];dsimp only;rw[Xl h a,if_pos ⟨rfl,b,e⟩]
theorem Xm{c:List UInt8}{r:dj}(h:dL c=some r):dJ r=c/\iK r=true/\bM r.p=true:=by
 unfold dL at h;cases hc:jG c with
 |none=>rw[hc]at h;cases h
 |some kx=>
  rw[hc]at h;dsimp only at h;by_cases a:kx.1=1/\bM (ui kx.2).p=true/\dJ (ui kx.2)=c
  ·rw[if_pos a]at h;injection h with h
   subst h;refine⟨a.2.2,?_,a.2.1⟩;by_cases d:iK (ui kx.2)=true
   ·exact d
   ·exfalso;have b:=a.2.2;unfold dJ at b;rw[if_neg d]at b;unfold jG at hc;rw[<-b]at hc;simp at hc
  ·rw[if_neg a]at h;cases h
end Wl
namespace Go.Vc
open Go
section
variable {C:Ctx} {h:Heap} {t e ts:Nat}
theorem II:∀(l:List UInt8) (b:ByteArray),l.foldl ByteArray.push b=⟨(b.data.toList++l).toArray⟩
 |[],b=>by simp
 |x::l,b=>by
  rw[zB,II l (b.push x)];simp[ByteArray.push]
theorem Wk(u:C.Ok)(G:∃i,C.T.get t=some i/\i.cE=.slice e)(A:∃i,C.T.get ts=some i/\i.cE=.str)(E:∃i,C.T.get e=some i/\i.cE=.int .u8){s:Sl}{l:List UInt8}{p:aA}(w:Seq h p s 1 aC l){K:ByteArray->Heap->Prop}(y:K ⟨l.toArray⟩ h):
  aw C.P (convert t ts (.slice s.ptr s.len s.cap)) (.one (.sc .str)) h K:=by
 obtain⟨O,H,M⟩:=A;obtain⟨Q,J,I⟩:=G;obtain⟨i3,a3,F⟩:=E;have D:C.P.underlying ts=some .string:=by have:=u.cE H;rw[M]at this;exact uH this
 have B:C.P.underlying t=some (.slice e):=by have:=u.cE J;rw[I]at this;exact iS this
 have u3:C.P.underlying e=some (.int .u8):=by have:=u.cE a3;rw[F]at this;exact HL this
 unfold aw convert;refine ag.bind (ag.always (aN B) ?_);refine ag.bind (ag.always (aN D) ?_);refine ag.bind (ag.always (aN u3) ?_);unfold Conv.bytesToString;have g:=fT (P:=C.P) (f:=aC) (k:=1) (K:=fun j h'=>j=(l.flatMap aC).toArray/\h'=h) (fun _=>rfl) w ⟨rfl,rfl⟩;cases hp:s.ptr with
 |none=>
  have:l=[]:=by
   cases l with
   |nil=>rfl
   |cons x r=>obtain⟨b,o,z,_⟩:=w.elem 0 x (by simp);rw[hp]at z;cases z
  subst this;exact ag.pure' ⟨⟨#[]⟩,rfl,y⟩
 |some a=>
  rw[hp]at g;dsimp only;have d:ag C.P (loadCells a s.len) h fun j h'=>j=(l.flatMap aC).toArray/\h'=h:=by
   have:wo 1 s.len (.slice (some a) s.len s.cap)=loadCells a s.len:=by
    unfold wo;simp
   rw[<-this];exact g
  refine ag.bind (d.mono ?_);rintro _ _ ⟨rfl,rfl⟩;have q:∀(l:List UInt8) (b:ByteArray),aI C.P (forIn (m:=Sem) (l.flatMap aC) b fun c r=>match c with
    |vL vS n=>do pure (ForInStep.yield (r.push (yo n.toNat)))
    |_=>do let r<-stuck "bytesToString: byte expected";pure r) (l.foldl ByteArray.push b):=fun l=>by
   induction l with
   |nil=>intro b;exact .pure
   |cons x l ih=>
    intro b;have L:(x::l).flatMap aC=Value.int .u8 x.toNat::l.flatMap aC:=rfl;rw[L,List.forIn_cons];have N:b.push (yo ((x.toNat:Int)).toNat)=b.push x:=by
     rw[qp];congr 1;apply yh.1;simp
    refine aI.bind (v:=ForInStep.yield (b.push x)) (by dsimp only;rw[N];exact .pure) ?_;exact ih _
  refine ag.bind (ag.always (v:=l.foldl ByteArray.push ByteArray.empty) ?_ ?_)
  ·rw[List.forIn_toArray];exact q l _
  ·refine ag.pure' ⟨_,rfl,?_⟩;rw[II];exact y
end
end Go.Vc
namespace Wl
section
variable {α:Type} (le:α->α->Bool)
def ik(a b:α):Bool:=le a b&&le b a
def cj(l a:List α):Prop:=∀x,l.filter (ik le x)=a.filter (ik le x)
def Sd(l:List α):Prop:=l.Pairwise fun a b=>le a b=true
structure Ord:Prop where
 trans:∀a b c,le a b=true->le b c=true->le a c=true
 total:∀a b,(le a b||le b a)=true
variable {le}
theorem Ord.FT(o:Ord le){a b:α}(h:¬le a b=true):le b a=true:=by
 have:=o.total a b;cases h1:le a b with
 |true=>exact absurd h1 h
 |false=>rw[h1]at this;simpa using this
theorem Ord.refl(o:Ord le)(a:α):le a a=true:=by have:=o.total a a;simpa using this
theorem cj.refl(l:List α):cj le l l:=fun _=>rfl
theorem cj.trans{l1 l2 a:List α}(h:cj le l1 l2)(k:cj le l2 a):cj le l1 a:=fun x=>(h x).trans (k x)
theorem cj.symm{l1 l2:List α}(h:cj le l1 l2):cj le l2 l1:=fun x=>(h x).symm
theorem cj.app{a b c d:List α}(h:cj le a b)(k:cj le c d):cj le (a++c) (b++d):=fun x=>by
 rw[zh,zh,h x,k x]
theorem cj.mem(o:Ord le){l a:List α}(h:cj le l a){y:α}(c:y∈a):y∈l:=by
 have b:y∈a.filter (ik le y):=qI.2 ⟨c,by unfold ik;rw[o.refl];rfl⟩;rw[<-h y]at b;exact(qI.1 b).1
theorem cj.Zs(o:Ord le){u v:List α}(h:∀x∈u,∀y∈v,¬le x y=true):cj le (u++v) (v++u):=fun z=>by
 rw[zh,zh];by_cases e:u.filter (ik le z)=[]
 ·rw[e];simp
 ·by_cases f:v.filter (ik le z)=[]
  ·rw[f];simp
  ·exfalso;obtain⟨x,g⟩:=y5 _ e;obtain⟨y,i⟩:=y5 _ f;obtain⟨c,b⟩:=qI.1 g;obtain⟨d,a⟩:=qI.1 i;unfold ik at b a;simp only[qy]at b a;exact h x c y d (o.trans _ _ _ b.2 a.1)
theorem cj.RI(o:Ord le){l:List α}(h:cj le [] l):l=[]:=by
 cases l with
 |nil=>rfl
 |cons a l=>exact absurd (cj.mem o h (q8 ..)) (by simp)
theorem OK(o:Ord le):∀(l c:List α),Sd le l->Sd le c->cj le l c->l=c
 |[],c,_,_,h=>(cj.RI o h).symm
 |a::l,[],_,_,h=>absurd (cj.RI o h.symm) (by simp)
 |a::l,b::c,s,s',h=>by
  have d:a=b:=by
   have g:le a b=true:=by
    have:=cj.mem o h (y:=b) (q8 ..);rcases zc.1 this with e|e
    ·rw[e];exact o.refl _
    ·exact(zL.1 s).1 _ e
   have i:le b a=true:=by
    have:=cj.mem o h.symm (y:=a) (q8 ..);rcases zc.1 this with e|e
    ·rw[e];exact o.refl _
    ·exact(zL.1 s').1 _ e
   have h3:=h a;have f:ik le a a=true:=by unfold ik;rw[o.refl];rfl
   have j:ik le a b=true:=by unfold ik;rw[g,i];rfl
   rw[yJ f,yJ j]at h3;injection h3
  subst d;rw[OK o l c (zL.1 s).2 (zL.1 s').2 fun x=>by
   have h3:=h x;rw[zm,zm]at h3;split at h3
   ·injection h3
   ·exact h3]
theorem FU(o:Ord le)(l:List α):Sd le (l.mergeSort le)/\cj le l (l.mergeSort le):=by
 refine⟨vh o.trans o.total l,fun x=>?_⟩;have g:(l.filter (ik le x)).Pairwise fun a b=>le a b=true:=by
  rw[List.pairwise_filter];refine List.Pairwise.imp ?_ (List.pairwise_of_forall (l:=l) (R:=fun _ _=>True) fun _ _=>trivial);intro a b _ e d;unfold ik at e d;simp only[qy]at e d;exact o.trans _ _ _ e.2 d.1
 have f:=List.sublist_mergeSort o.trans o.total g List.filter_sublist;have c:=f.filter (ik le x);rw[List.filter_filter]at c;simp only[vG]at c;exact c.eq_of_length ((yk l le).symm.filter _).length_eq
theorem adD(o:Ord le){l a:List α}(s:Sd le a)(h:cj le l a):a=l.mergeSort le:=by
 obtain⟨b,c⟩:=FU o l;exact OK o _ _ s b (h.symm.trans c)
theorem Sd.app(o:Ord le){u v:List α}(a:Sd le u)(b:Sd le v)(h:∀x∈u,∀y∈v,le x y=true):Sd le (u++v):=wQ.2 ⟨a,b,h⟩
theorem Sd.left{u v:List α}(h:Sd le (u++v)):Sd le u:=(wQ.1 h).1
theorem Sd.right{u v:List α}(h:Sd le (u++v)):Sd le v:=(wQ.1 h).2.1
theorem Sd.HZ{u v:List α}(h:Sd le (u++v)):∀x∈u,∀y∈v,le x y=true:=(wQ.1 h).2.2
theorem Sd.at_(o:Ord le){l:List α}(h:Sd le l){i j:Nat}(b:i<=j)(a:j<l.length):le (l[i]'(by omega)) l[j]=true:=by
 by_cases e:i=j
 ·subst e;exact o.refl _
 ·exact zq.1 h i j (by omega) a (by omega)
theorem Zt(o:Ord le){l1 l2 a b f g:List α}(k:Sd le (l1++l2))(n:Sd le (a++b))(h:∀x∈l1,∀y∈b,le x y=true)(e:∀x∈l2,∀y∈a,¬le x y=true)
  (i:cj le (l1++a) f) (m:Sd le f) (j:cj le (l2++b) g) (l:Sd le g):Sd le (f++g)/\cj le ((l1++l2)++(a++b)) (f++g):=by
 constructor
 ·refine Sd.app o m l fun x d y c=>?_;rcases qE.1 (cj.mem o i d)with d|d<;>rcases qE.1 (cj.mem o j c)with c|c
  ·exact k.HZ x d y c
  ·exact h x d y c
  ·exact o.FT (e y c x d)
  ·exact n.HZ x d y c
 ·have p:cj le ((l1++l2)++(a++b)) ((l1++a)++(l2++b)):=by
   rw[show(l1++l2)++(a++b)=l1++((l2++a)++b)by simp,show(l1++a)++(l2++b)=l1++((a++l2)++b)by simp];exact(cj.refl _).app ((cj.Zs o e).app (cj.refl _))
  exact p.trans (i.app j)
end
section
variable {α:Type} {le:α->α->Bool}
theorem uJ(o:Ord le):∀{l j:List α},cj le l j->l.length=j.length
 |[],j,h=>by rw[cj.RI o h]
 |a::l,j,h=>by
  have p:=cj.mem o h.symm (y:=a) (q8 ..);obtain⟨u,v,r⟩:=List.append_of_mem p;have s:∃(u:List α) (b:α) (v:List α),j=u++b::v/\(∀x∈u,ik le a x=false)/\ik le a b=true:=by
   have m:j.filter (ik le a)≠[]:=fun G=>by
    have:a∈j.filter (ik le a):=qI.2 ⟨p,by unfold ik;rw[o.refl];rfl⟩;rw[G]at this;cases this
   clear r u v p h
   induction j with
   |nil=>exact absurd rfl m
   |cons c j ih=>
    by_cases z:ik le a c=true
    ·exact⟨[],c,j,rfl,by simp,z⟩
    ·rw[List.filter_cons_of_neg z]at m;obtain⟨u,b,v,e,f,g⟩:=ih m;refine⟨c::u,b,v,by rw[e];rfl,fun x i=>?_,g⟩;rcases zc.1 i with rfl|i
     ·simpa using z
     ·exact f x i
  obtain⟨u,b,v,rfl,A,E⟩:=s;have F:ik le a a=true:=by unfold ik;rw[o.refl];rfl
  have n:=h a;have q:u.filter (ik le a)=[]:=wA.2 fun x i=>by rw[A x i];simp
  rw[yJ F,zh,q,zV,yJ E]at n;have w:a=b:=by injection n
  subst w;have D:cj le l (u++v):=fun x=>by
   have i:=h x;rw[zm,zh,zm]at i;rw[zh];by_cases d:ik le x a=true
   ·rw[if_pos d,if_pos d]at i;have t:u.filter (ik le x)=[]:=wA.2 fun y B k=>by
     have:=A y B;unfold ik at this d k;simp only[qy]at d k;rw[o.trans _ _ _ d.2 k.1,o.trans _ _ _ k.2 d.1]at this;cases this
    rw[t,zV]at i⊢;injection i
   ·rw[if_neg d,if_neg d]at i;exact i
  rw[zi,uJ o D];simp;omega
end
end Wl
