/- Part of the proofs that the laws of this seat answer true whatever the input reads, and leave it as it was; no condition. -/
import Derived.Test.YtkciobclldnoiaaGreatPlA
import Derived.Test.YtkciobclldnoiaaGreatPlB
set_option linter.unusedVariables false
set_option linter.unusedSimpArgs false
namespace Wl
def bO (p:Int×Int×Int):Bool:=decide (p.1≥1)&&(decide (p.1≤16)&&(decide (p.2.1≥1)&&(decide (p.2.1≤4)&&(decide (p.2.2≥1)&&decide (p.2.2≤24)))))
theorem bP (p:Int×Int×Int):bO p=true↔(1≤p.1∧p.1≤16)∧(1≤p.2.1∧p.2.1≤4)∧1≤p.2.2∧p.2.2≤24:=by
 simp[bO,and_assoc]
def cK (p:Int×Int×Int):Int:=if bO p then p.1+p.2.1 else 0
end Wl
namespace Wl
open Go
def A8 (s:Int):Int:=IntKind.wrap .u64 (IntKind.wrap .u64 (s*(6364136223846793005:Int))+(1442695040888963407:Int))
def told (s:Int):Int:=IntKind.wrap .u32 (Int.fdiv (A8 s) (2^min (32:Int).toNat (IntKind.bits .u64)))
def iF (s n:Int):Int:=IntKind.wrap .i64 (Int.tmod (IntKind.wrap .u64 (told s)) (IntKind.wrap .u64 n))
theorem wrap_u64 (x:Int):IntKind.wrap .u64 x=x%18446744073709551616:=rfl
theorem q6 (s n:Int) (h1:0<n) (h2:n≤2^62):0≤iF s n∧iF s n<n:=by
 unfold iF
 have e1:IntKind.wrap .u64 n=n:=by rw[wrap_u64];omega
 rw[e1]
 have e0:0≤IntKind.wrap .u64 (told s):=by rw[wrap_u64];omega
 have e2:=Int.tmod_lt_of_pos (IntKind.wrap .u64 (told s)) h1
 have e3:0≤Int.tmod (IntKind.wrap .u64 (told s)) n:=Int.tmod_nonneg n e0
 rw[Go.Vc.wrap_small _ (by omega) (by omega)]
 exact⟨e3,e2⟩
def q7 (l:List Int) (i:Nat):Int:=l.getD i 0
def vr (l:List Int) (i j:Nat):List Int:=(l.set i (q7 l j)).set j (q7 l i)
theorem Kj (l:List Int) (i j:Nat):(vr l i j).length=l.length:=by simp[vr]
def eG (n:Nat) (s:Int) (l:List Int):Nat→Int×List Int
 |0=>(s,l)
 |k+1=>(A8 (eG n s l k).1,vr (eG n s l k).2 k (k+(iF (eG n s l k).1 ((n-k:Nat):Int)).toNat))
theorem q8 (n:Nat) (s:Int) (l:List Int):∀k,(eG n s l k).2.length=l.length
 |0=>rfl
 |k+1=>by rw[eG,Kj,q8 n s l k]
theorem wW {l:List Int} {i:Nat} (h:i<l.length):q7 l i∈l:=by
 rw[q7,List.getD_eq_getElem?_getD,List.getElem?_eq_getElem h];exact List.getElem_mem h
theorem Kk {l:List Int} {i j:Nat} (hi:i<l.length) (hj:j<l.length) {x:Int} (hx:x∈vr l i j):x∈l:=by
 rcases List.mem_or_eq_of_mem_set hx with h|h
 ·rcases List.mem_or_eq_of_mem_set h with h|h
  ·exact h
  ·rw[h];exact wW hj
 ·rw[h];exact wW hi
def upto (n:Nat):List Int:=(List.range n).map fun i:Nat=>(i:Int)
theorem gE (n:Nat):(upto n).length=n:=by simp[upto]
theorem wX (n:Nat) (s:Int):∀k,k≤n→∀x∈(eG n s (upto n) k).2,0≤x∧x<n
 |0,_,x,hx=>by
  simp only[eG,upto,List.mem_map,List.mem_range]at hx
  obtain⟨i,hi,rfl⟩:=hx
  omega
 |k+1,hk,x,hx=>by
  have hb:k<n→n-k≤2^62→k+(iF (eG n s (upto n) k).1 ((n-k:Nat):Int)).toNat<n:=fun h1 h2=>by
   have:=q6 (eG n s (upto n) k).1 ((n-k:Nat):Int) (by omega) (by omega)
   omega
  have hl:=q8 n s (upto n) k
  rw[gE]at hl
  by_cases hbig:n-k≤2^62
  ·refine wX n s k (by omega) x (Kk (by omega) ?_ hx)
   have:=hb (by omega) hbig
   omega
  ·--beyond any size:what is set is 0 or a member
   have key:∀y∈vr (eG n s (upto n) k).2 k (k+(iF (eG n s (upto n) k).1 ((n-k:Nat):Int)).toNat),y∈(eG n s (upto n) k).2∨y=0:=by
    intro y hy
    have g:∀i,q7 (eG n s (upto n) k).2 i∈(eG n s (upto n) k).2∨q7 (eG n s (upto n) k).2 i=0:=fun i=>by
     by_cases h:i<(eG n s (upto n) k).2.length
     ·exact .inl (wW h)
     ·right;simp only[q7,List.getD_eq_getElem?_getD];rw[List.getElem?_eq_none (by omega)];rfl
    rcases List.mem_or_eq_of_mem_set hy with h|h
    ·rcases List.mem_or_eq_of_mem_set h with h|h
     ·exact .inl h
     ·rw[h];exact g _
    ·rw[h];exact g _
   rcases key x hx with h|h
   ·exact wX n s k (by omega) x h
   ·subst h;omega
def fE (l:List Int):List Int:=l.mergeSort fun x y=>decide (x≤y)
theorem tw (l:List Int):(fE l).length=l.length:=List.length_mergeSort l
theorem A9 (l:List Int) (x:Int):x∈fE l↔x∈l:=List.mem_mergeSort
def xX (s:Int) (n k:Nat):List Int:=fE ((eG n s (upto n) k).2.take k)
theorem Kl {s:Int} {n k:Nat} (hk:k≤n) {x:Int} (hx:x∈xX s n k):0≤x∧x<n:=
 wX n s k hk x (List.mem_of_mem_take ((A9 _ _).1 hx))
theorem Km (s:Int) (n k:Nat) (hk:k≤n):(xX s n k).length=k:=by
 rw[xX,tw,List.length_take,q8,gE];omega
def dh (l:Nat):Nat:=if l≤1 then l else if l≤4 then 2 else if l≤9 then 3 else if l≤16 then 4 else 5
def vt (r:Nat):Nat:=if r=0 then 0 else if r=1 then 1 else if r≤3 then 2 else 3
def lD (l k:Nat):Nat:=
 (if k>1 then 1048576/(k*(k-1))else 1048576/l)+
  (if k<l/dh l then 1048576*dh l/(l*k)else if k=l/dh l then 1048576*dh l*vt (dh l)/l else 0)
def iZ (l:Nat):Nat→Nat
 |0=>0
 |k+1=>iZ l k+lD l (k+1)
def fU (l:Nat):List Int:=(List.range l).map fun k=>((iZ l (k+1):Nat):Int)
theorem iq (l:Nat):(fU l).length=l:=by simp[fU]
def G8 (t:List Int) (x:Int):Nat:=(t.findIdx fun y=>decide (y>x))+1
theorem xY:∀l,l≤20→∀k,k≤20→lD l k≤2^30:=by decide+kernel
theorem vu (l:Nat) (hl:l≤20):∀k,k≤20→iZ l k≤k*2^30
 |0,_=>by simp[iZ]
 |k+1,hk=>by
  have:=vu l hl k (by omega)
  have:=xY l hl (k+1) hk
  rw[iZ];omega
theorem Dd:∀l,l≤20→1≤l→0<iZ l l:=by decide+kernel
theorem xZ (l:Nat) (h:1≤l):(fU l).getLast?=some ((iZ l l:Nat):Int):=by
 obtain⟨k,rfl⟩:∃k,l=k+1:=⟨l-1,by omega⟩
 simp[fU,List.range_succ]
def IE (seed id:Int):Int:=IntKind.wrap .u64 (IntKind.wrap .u32 ((BitVec.ofInt (IntKind.bits .u32) seed^^^(BitVec.ofInt (IntKind.bits .u32) (IntKind.wrap .u32 ((IntKind.wrap .u32 id)*(2654435761:Int))))).toNat:Nat))
def CF (s:Int) (n:Nat):Nat:=G8 (fU n) (iF s (iZ n n))
theorem q9 (s:Int) (n:Nat) (h1:1≤n) (h2:n≤20):CF s n≤n:=by
 unfold CF G8
 have hs:=Dd n h2 h1
 have hs2:=vu n h2 n h2
 have hb:=q6 s (iZ n n) (by omega) (by omega)
 have:=List.findIdx_lt_length_of_exists (p:=fun y=>decide (y>iF s (iZ n n))) (xs:=fU n) ⟨_,List.mem_of_getLast? (xZ n h1),by simpa using hb.2⟩
 rw[iq]at this
 omega
def bZ (id:Int):Bool:=decide (0≤id)&&decide (id≤65535)
def ir (n:Nat) (seed id:Int):List Int:=xX (A8 (A8 (IE seed id))) n (CF (A8 (IE seed id)) n)
theorem tz {n:Nat} (h1:1≤n) (h2:n≤20) {seed id x:Int} (hx:x∈ir n seed id):0≤x∧x<n:=Kl (q9 _ n h1 h2) hx
theorem Ba {n:Nat} (h1:1≤n) (h2:n≤20) (seed id:Int):(ir n seed id).length≤n:=by
 rw[ir,Km _ _ _ (q9 _ n h1 h2)];exact q9 _ n h1 h2
def oM (n:Nat) (l:List Int):List UInt8:=l.foldl (fun r i=>r.set i.toNat 1) (List.replicate n 0)
theorem wY (n:Nat) (l:List Int):(oM n l).length=n:=by
 have:∀(l:List Int) (r:List UInt8),(l.foldl (fun r i=>r.set i.toNat 1) r).length=r.length:=by
  intro l
  induction l with
  |nil=>intro r;rfl
  |cons a t ih=>intro r;rw[List.foldl_cons,ih];simp
 rw[oM,this];simp
def zX (n:Nat) (seed id:Int):List UInt8:=oM n (ir n seed id)
theorem Kn (n:Nat) (seed id:Int):(zX n seed id).length=n:=wY _ _
def ja (K H h:Nat):List UInt8:=(List.range K).map (fun j=>Gf.pw ((h+1)*(j+1)%255))++(List.range H).map fun i=>if i=h then 1 else 0
end Wl
namespace Wl
def cH (K H:Nat):List (List UInt8):=(List.range H).map (ja K H)
theorem De (K H h:Nat):(ja K H h).length=K+H:=by simp[ja]
def fV (p:Int×Int×Int) (seed:Int) (ids:List Int):List (List UInt8):=
 if bO p then cH p.1.toNat p.2.1.toNat++(ids.filter bZ).map (zX (cK p).toNat seed)else[]
theorem nM {α:Type} {f:α→Bool} {l:List α} {k:Nat} (hk:k<l.length):(l.take (k+1)).filter f=if f l[k]then(l.take k).filter f++[l[k]]else(l.take k).filter f:=by
 rw[List.take_succ_eq_append_getElem hk,List.filter_append]
 by_cases h:f l[k]=true<;>simp[h]
end Wl
namespace Wl
abbrev Row:=List UInt8
abbrev bq:=List Row
def scaleB (c:UInt8) (l:Row):Row:=l.map (Gf.mul c)
def cZ (c:UInt8) (a to:Row):Row:=List.zipWith (fun x y=>y^^^Gf.mul c x) a to
def bj (r:Row) (bm:Nat):UInt8:=r.getD bm 0
def aQ (m:bq) (i:Nat):Row:=m.getD i []
def fl (m:bq) (top bm:Nat):Option Nat:=(List.range m.length).find? fun i=>decide (top≤i)&&(bj (aQ m i) bm !=0)
def fF (m:bq) (i j:Nat):bq:=(m.set i (aQ m j)).set j (aQ m i)
def cT (top bm:Nat) (m:bq) (k:Nat):bq:=m.mapIdx fun i r=>if i<k∧i≠top then cZ (bj r bm) (aQ m top) r else r
def fZ (top bm:Nat) (m:bq):bq:=m.set top (scaleB (Gf.inv (bj (aQ m top) bm)) (aQ m top))
def fG (s:Nat×bq) (bm:Nat):Nat×bq:=
 match fl s.2 s.1 bm with
 |none=>s
 |some i=>(s.1+1,cT s.1 bm (fZ s.1 bm (fF s.2 s.1 i)) s.2.length)
def bu (m:bq):Nat→Nat×bq
 |0=>(0,m)
 |c+1=>fG (bu m c) c
def fW (m:bq):Nat:=(aQ m 0).length
def dX (m:bq):Nat:=(bu m (fW m)).1
def bf (n:Nat) (m:bq):Prop:=∀r∈m,r.length=n
theorem oN (c:UInt8) (l:Row):(scaleB c l).length=l.length:=by simp[scaleB]
theorem bI {c:UInt8} {a t:Row} (h:a.length=t.length):(cZ c a t).length=t.length:=by simp[cZ,h]
theorem cO {m:bq} {i:Nat} (h:i<m.length):aQ m i=m[i]:=by rw[aQ,List.getD_eq_getElem?_getD,List.getElem?_eq_getElem h];rfl
theorem cx {n:Nat} {m:bq} (h:bf n m) {i:Nat} (hi:i<m.length):(aQ m i).length=n:=by rw[cO hi];exact h _ (List.getElem_mem hi)
theorem wZ {n:Nat} {m:bq} (h:bf n m) {i:Nat} {r:Row} (hr:r.length=n):bf n (m.set i r):=fun x hx=>by
 rcases List.mem_or_eq_of_mem_set hx with h1|h1
 ·exact h x h1
 ·rw[h1];exact hr
theorem G9 {P:Nat→Bool} {n:Nat} (h:∀j,j<n→P j=false):(List.range n).find? P=none:=by
 rw[List.find?_eq_none]
 intro x hx
 rw[List.mem_range]at hx
 simp[h x hx]
theorem Ha {P:Nat→Bool} {n k:Nat} (hk:k<n) (h:∀j,j<k→P j=false) (hp:P k=true):(List.range n).find? P=some k:=by
 rw[List.find?_eq_some_iff_append]
 refine⟨hp,List.range k,List.range' (k+1) (n-k-1),?_,fun a ha=>?_⟩
 ·rw[List.range_eq_range',List.range_eq_range']
  have e1:n=k+(n-k):=by omega
  have e2:n-k=(n-k-1)+1:=by omega
  conv=>lhs;rw[e1,←List.range'_append_1 (s:=0) (m:=k) (n:=n-k)]
  rw[Nat.zero_add]
  conv=>lhs;rw[e2,List.range'_succ]
 ·rw[List.mem_range]at ha
  simp[h a ha]
theorem lX {m:bq} {top bm i:Nat} (h:fl m top bm=some i):top≤i∧i<m.length∧bj (aQ m i) bm≠0:=by
 have h1:=List.find?_some h
 have h2:=List.mem_of_find?_eq_some h
 simp at h1 h2
 exact⟨h1.1,h2,h1.2⟩
theorem E2 {m:bq} {top bm:Nat} (h:fl m top bm=none):∀i,top≤i→i<m.length→bj (aQ m i) bm=0:=fun i h1 h2=>by
 have:=List.find?_eq_none.1 h i (List.mem_range.2 h2)
 simpa[h1]using this
theorem ig (m:bq) (i j:Nat):(fF m i j).length=m.length:=by simp[fF]
theorem tC {n:Nat} {m:bq} (h:bf n m) {i j:Nat} (hi:i<m.length) (hj:j<m.length):bf n (fF m i j):=wZ (wZ h (cx h hj)) (cx h hi)
theorem j8 (t c:Nat) (m:bq):(fZ t c m).length=m.length:=by simp[fZ]
theorem oO {n:Nat} {m:bq} (h:bf n m) {t c:Nat} (ht:t<m.length):bf n (fZ t c m):=wZ h (by rw[oN];exact cx h ht)
theorem j9 (t c:Nat) (m:bq) (k:Nat):(cT t c m k).length=m.length:=by simp[cT]
theorem oP {n:Nat} {m:bq} (h:bf n m) {t c k:Nat} (ht:t<m.length):bf n (cT t c m k):=fun x hx=>by
 obtain⟨i,hi,rfl⟩:=List.mem_mapIdx.1 hx
 have hl:=h _ (List.getElem_mem hi)
 split
 ·rw[bI (by rw[cx h ht,hl])];exact hl
 ·exact hl
theorem IF (t c:Nat) (m:bq):cT t c m 0=m:=by
 apply List.ext_getElem?
 intro i
 simp[cT,List.getElem?_mapIdx]
theorem lE {t c k:Nat} {m:bq} {i:Nat} (hi:i<m.length):aQ (cT t c m k) i=if i<k∧i≠t then cZ (bj (aQ m i) c) (aQ m t) (aQ m i)else aQ m i:=by
 rw[cO (by rw[j9];exact hi),cO hi];simp[cT]
theorem IG {t c k:Nat} {m:bq} (hk:k<m.length) (hkt:k≠t):cT t c m (k+1)=(cT t c m k).set k (cZ (bj (aQ m k) c) (aQ m t) (aQ m k)):=by
 apply List.ext_getElem?
 intro i
 simp only[cT,List.getElem?_set,List.getElem?_mapIdx,List.length_mapIdx]
 by_cases hik:k=i
 ·subst hik
  simp only[if_true,hk,List.getElem?_eq_getElem hk,Option.map_some]
  rw[if_pos ⟨by omega,hkt⟩,cO hk]
 ·rw[if_neg hik]
  congr 1
  funext r
  by_cases h:i<k∧i≠t
  ·rw[if_pos h,if_pos ⟨by omega,h.2⟩]
  ·rw[if_neg h,if_neg (fun hh=>h ⟨by omega,hh.2⟩)]
theorem IH {t c:Nat} {m:bq}:cT t c m (t+1)=cT t c m t:=by
 apply List.ext_getElem?
 intro i
 simp only[cT,List.getElem?_mapIdx]
 congr 1
 funext r
 by_cases h:i<t∧i≠t
 ·rw[if_pos h,if_pos ⟨by omega,h.2⟩]
 ·rw[if_neg h,if_neg (fun hh=>h ⟨by omega,hh.2⟩)]
theorem II {n:Nat} {s:Nat×bq} (h:bf n s.2) (bm:Nat):bf n (fG s bm).2∧(fG s bm).2.length=s.2.length:=by
 unfold fG
 cases hb:fl s.2 s.1 bm with
 |none=>exact⟨h,rfl⟩
 |some i=>
  have hh:=lX hb
  dsimp only
  refine⟨oP (oO (tC h (by omega) hh.2.1) (by rw[ig];omega)) (by rw[j8,ig];omega),by rw[j9,j8,ig]⟩
theorem gF {n:Nat} {m:bq} (h:bf n m):∀c,bf n (bu m c).2∧(bu m c).2.length=m.length
 |0=>⟨h,rfl⟩
 |c+1=>by
  have:=gF h c
  have h2:=II this.1 c
  rw[bu]
  exact⟨h2.1,by rw[h2.2,this.2]⟩
theorem Ko {s:Nat×bq} (h:s.1≤s.2.length) (bm:Nat):(fG s bm).1≤(fG s bm).2.length:=by
 unfold fG
 cases hb:fl s.2 s.1 bm with
 |none=>exact h
 |some i=>
  have hh:=lX hb
  dsimp only
  rw[j9,j8,ig];omega
theorem ra (m:bq):∀c,(bu m c).1≤(bu m c).2.length
 |0=>by simp[bu]
 |c+1=>Ko (ra m c) c
end Wl
namespace Go.Vc
open Go
section
variable {C:Ctx} {t t2 ty e k:Nat} {z:List Value} {by_:Nat} {α:Type} {h h0:Heap} {p B:aq} {s v:Sl} {f:α→List Value} {l l2:List α} {As:List HP}
theorem Own.Df (hC:C.Ok) (he:bH C.topU t e k z by_) (hw:∀x,(f x).length=k) (ho:Own h e s k f l) (hv:Seq h p v k f l2) (hone:∀x,∀c∈f x,c.oneCell'=true) (j:Nat) (hj:j≤l.length) {pt:Option Addr} {ln cp:Nat} (hpt:pt=if s.cap=j then s.ptr else s.ptr.map (·.add (j*k))) (hln:ln=s.len-j) {K:Int→Heap→Prop}
  (hk:∀n h',Own h' e s k f (l.take j++(l2.take (l.length-j)++l.drop (j+l2.length)))→aE (fun b=>¬s.on b) h h'→K n h'):
  av C.P (Builtin.copy_ #[t,t2] ty #[.slice pt ln cp,.slice v.ptr v.len v.cap]) (.one (.sc (.int .i64))) h K:=by
 unfold av Builtin.copy_
 simp only[List.getElem?_toArray,List.getElem?_cons_zero,List.getElem?_cons_succ]
 refine af.bind (af.always (aA (he.under hC)) ?_)
 refine af.bind (af.pure' ?_)
 refine af.bind (af.always (he.size hC) ?_)
 have hl1:=ho.len;have hl2:=hv.len
 have hcap:=ho.cap
 obtain⟨m,hm⟩:∃m,m=Nat.min v.len ln:=⟨_,rfl⟩
 rw[←hm]
 have hm1:m≤l2.length:=by rw[hm,←hl2];exact Nat.min_le_left _ _
 have hm2:m≤l.length-j:=by rw[hm,←hl1,hln];exact Nat.min_le_right _ _
 have hm3:m=min l2.length (l.length-j):=by rw[hm,hln,hl1,hl2]
 have hv':=hv.take m hm1
 have e0:l2.take (l.length-j)++l.drop (j+l2.length)=l2.take m++l.drop (j+m):=by
  rcases Nat.le_total l2.length (l.length-j)with hh|hh
  ·rw[List.take_of_length_le hh,show m=l2.length by omega,List.take_length]
  ·rw[show m=l.length-j by omega,List.drop_of_length_le (show l.length≤j+l2.length by omega),List.drop_of_length_le (by omega)]
 rw[e0]at hk
 have efc:Builtin.firstCells k m (.slice v.ptr v.len v.cap)=Builtin.firstCells k m (.slice v.ptr m v.cap):=by cases v.ptr<;>rfl
 rw[efc]
 refine af.bind (dP (v:=⟨v.ptr,m,v.cap⟩) hw hv' ?_)
 have triv:m=0→l.take j++(l2.take m++l.drop (j+m))=l:=fun e=>by rw[e];simp
 rcases ho.head with⟨h1,h2,h3⟩|⟨b,rest,h1,h2,h3,h4⟩
 ·have hp0:pt=none:=by rw[hpt,h1];split<;>rfl
  rw[hp0]
  subst h3
  have:m=0:=by simp at hm2;exact hm2
  refine af.pure' ⟨_,rfl,hk _ h ?_ (aE.refl _ _)⟩
  rw[triv this];exact ho
 ·by_cases hcj:s.cap=j
  ·have hp0:pt=some ⟨b,0,none⟩:=by rw[hpt,if_pos hcj,h1]
   rw[hp0]
   have hm0:m=0:=by omega
   refine af.bind ?_
   rw[hm0]
   simp only[List.take_zero,List.flatMap_nil]
   exact af.pure' (af.pure' ⟨_,rfl,hk _ h (by rw[triv hm0];exact ho) (aE.refl _ _)⟩)
  ·have hp0:pt=some ⟨b,0+j*k,none⟩:=by rw[hpt,if_neg hcj,h1];simp only[Option.map_some];rw[add_eq]
   rw[hp0]
   refine af.bind ?_
   have esp:l.flatMap f++rest=(l.take j).flatMap f++((l.drop j).take m).flatMap f++((l.drop (j+m)).flatMap f++rest):=by
    rw[←List.append_assoc,←List.flatMap_append,←List.flatMap_append,←List.drop_drop,List.append_assoc (List.take j l),List.take_append_drop,List.take_append_drop]
   rw[esp]at h2
   refine cy (e:=e) (pre:=(l.take j).flatMap f) (old:=((l.drop j).take m).flatMap f) (post:=(l.drop (j+m)).flatMap f++rest) h2 (by rw[cn hw,cn hw,List.length_take,List.length_take,List.length_drop];congr 1;omega) (by rw[cn hw,List.length_take];rw[Nat.min_eq_left hj];omega) ?_ ?_
   ·intro c hc
    obtain⟨x,_,hxc⟩:=List.mem_flatMap.1 hc
    exact hone x c hxc
   ·refine af.pure' ⟨_,rfl,hk _ _ ⟨by rw[hl1,List.length_append,List.length_append,List.length_take,List.length_take,List.length_drop];omega,.inr ⟨b,rest,h1,?_,h3,h4⟩⟩ (aE.fa h2 (fun hn=>hn ⟨0,h1⟩))⟩
    rw[dN h2,if_pos rfl,List.flatMap_append,List.flatMap_append];simp[List.append_assoc]
theorem aa.Df (hC:C.Ok) (H:aa B h0 h As) (i:Nat) (hi:As[i]?=some (ak e s k f l)) (he:bH C.topU t e k z by_) (hw:∀x,(f x).length=k) (hv:Seq h p v k f l2) (hone:∀x,∀c∈f x,c.oneCell'=true) (j:Nat) (hj:j≤l.length) {pt:Option Addr} {ln cp:Nat} (hpt:pt=if s.cap=j then s.ptr else s.ptr.map (·.add (j*k))) (hln:ln=s.len-j) {K:Int→Heap→Prop}
  (hk:∀n h',aa B h0 h' (As.set i (ak e s k f (l.take j++(l2.take (l.length-j)++l.drop (j+l2.length)))))→K n h'):
  av C.P (Builtin.copy_ #[t,t2] ty #[.slice pt ln cp,.slice v.ptr v.len v.cap]) (.one (.sc (.int .i64))) h K:=
 (H.own i hi).Df hC he hw hv hone j hj hpt hln fun n h' x y=>hk n h' (H.gW i hi y x)
end
end Go.Vc
namespace Wl
open Go
def b8 (n:Int):UInt8:=UInt8.ofNat (n%256).toNat
theorem cI (n:Int):IntKind.wrap .u8 n=((b8 n).toNat:Int):=by
 have h0:=Int.emod_nonneg n (show(256:Int)≠0 by decide)
 have h1:=Int.emod_lt_of_pos n (show(0:Int)<256 by decide)
 have e:((b8 n).toNat:Int)=n%256:=by
  unfold b8
  rw[UInt8.toNat_ofNat']
  omega
 rw[e]
 unfold IntKind.wrap
 simp[IntKind.bits,IntKind.signed]
abbrev me:=BitVec 32
def ya (s:me):me:=if s&&&1#32=1#32 then(s>>>1)^^^3988292384#32 else s>>>1
def pZ:Nat→me→me
 |0,s=>s
 |n+1,s=>ya (pZ n s)
def Gz (s:me) (x:UInt8):me:=pZ 8 (s^^^BitVec.ofNat 32 x.toNat)
def nd (l:List UInt8):me:=l.foldl Gz 4294967295#32
def p7 (l:List UInt8):me:=4294967295#32^^^nd l
theorem Hb (l:List UInt8) (x:UInt8):nd (l++[x])=Gz (nd l) x:=by unfold nd;rw[List.foldl_append];rfl
theorem Dg (s:me):IntKind.wrap .u32 ((s.toNat:Nat):Int)=(s.toNat:Int):=by
 have:=s.isLt
 unfold IntKind.wrap
 simp[IntKind.bits,IntKind.signed]
 omega
theorem Hc (a b:me):IntKind.wrap .u32 ((BitVec.ofInt (IntKind.bits .u32) (a.toNat:Int)^^^BitVec.ofInt (IntKind.bits .u32) (b.toNat:Int)).toNat:Nat)=((a^^^b).toNat:Int):=by
 show IntKind.wrap .u32 (((BitVec.ofInt 32 (a.toNat:Int)^^^BitVec.ofInt 32 (b.toNat:Int):BitVec 32).toNat:Nat):Int)=_
 rw[BitVec.ofInt_natCast,BitVec.ofInt_natCast,BitVec.ofNat_toNat,BitVec.ofNat_toNat,BitVec.setWidth_eq,BitVec.setWidth_eq,Dg]
theorem Nz (a b:me):IntKind.wrap .u32 ((BitVec.ofInt (IntKind.bits .u32) (a.toNat:Int)&&&BitVec.ofInt (IntKind.bits .u32) (b.toNat:Int)).toNat:Nat)=((a&&&b).toNat:Int):=by
 show IntKind.wrap .u32 (((BitVec.ofInt 32 (a.toNat:Int)&&&BitVec.ofInt 32 (b.toNat:Int):BitVec 32).toNat:Nat):Int)=_
 rw[BitVec.ofInt_natCast,BitVec.ofInt_natCast,BitVec.ofNat_toNat,BitVec.ofNat_toNat,BitVec.setWidth_eq,BitVec.setWidth_eq,Dg]
theorem IJ (n:Int):IntKind.wrap .u32 n=((BitVec.ofInt 32 n).toNat:Int):=by
 unfold IntKind.wrap
 simp[IntKind.bits,IntKind.signed,BitVec.toNat_ofInt]
 omega
theorem L3 (s:me):Int.fdiv (s.toNat:Int) (2^min (1:Int).toNat (IntKind.bits .u32))=((s>>>1).toNat:Int):=by
 rw[show min (1:Int).toNat (IntKind.bits .u32)=1 from rfl,Int.fdiv_eq_ediv_of_nonneg _ (by decide),BitVec.toNat_ushiftRight,Nat.shiftRight_eq_div_pow]
 simp
theorem GA (s:me):((s&&&1#32).toNat:Int)=1↔s&&&1#32=1#32:=by
 constructor
 ·intro h
  apply BitVec.eq_of_toNat_eq
  have:(1#32:me).toNat=1:=rfl
  omega
 ·intro h;rw[h];rfl
def ka (s:me):List UInt8:=(List.range 4).map fun i=>b8 (Int.fdiv (s.toNat:Int) (2^(8*i)))
theorem Dh (s:me):(ka s).length=4:=by simp[ka]
def cD (kind:Int) (body:List UInt8):List UInt8:=[87,115,1,b8 kind]++body++List.replicate (55-body.length) 0
def cP (kind:Int) (body:List UInt8):List UInt8:=
 if 1≤kind∧kind≤255∧body.length≤55 then cD kind body++ka (p7 (cD kind body))++[165]else[]
theorem tE {kind:Int} {body:List UInt8} (h:body.length≤55):(cD kind body).length=59:=by simp[cD];omega
theorem jU {kind:Int} {body:List UInt8} (h1:1≤kind) (h2:kind≤255) (h3:body.length≤55):(cP kind body).length=64:=by
 unfold cP;rw[if_pos ⟨h1,h2,h3⟩];simp[tE h3,Dh]
end Wl
namespace Go.Vc
open Go
def ft (s:ByteArray):List UInt8:=s.data.toList
theorem re (s:ByteArray):(ft s).length=s.size:=rfl
def NQ (n:Nat):Obj→Obj
 | .cells c elem (lo,hi)=>.cells c elem (if lo==hi then(n,n+1)else(min lo n,max hi (n+1)))
 |o=>o
theorem af.IK {P:Program} {h:Heap} {b n:Nat} {c:Array Value} {e:TypeId} {K:Unit→Heap→Prop} (hb:h[b]?=some (.cells c e (0,0))) (hn:n=c.size) (hk:∀h',(∀x,x≠b→h'[x]?=h[x]?)→h'.size=h.size→(∃f,h'[b]?=some (.cells c e f))→K () h'):
  af P (freeze {block:=b,off:=n} 1) h K:=fun w hw=>by
 refine⟨(),w.freeze {block:=b,off:=n} 1,run_freeze P w _ _,⟨rfl,rfl,rfl,Nat.le_refl _⟩,?_⟩
 subst hw
 have hg:(w.freeze {block:=b,off:=n} 1).heap=w.heap.modify b (NQ n):=rfl
 refine hk _ (fun x hx=>?_) ?_ ?_
 ·rw[hg,Array.getElem?_modify,if_neg (fun e=>hx e.symm)]
 ·rw[hg];simp
 ·rw[hg,Array.getElem?_modify,if_pos rfl,hb]
  exact⟨_,rfl⟩
section
variable {C:Ctx} {B:aq} {h h0:Heap} {As:List HP} {t e ts:Nat}
theorem L4 (hC:C.Ok) (hs:∃i,C.T.get ts=some i∧i.bQ=.str) (ht:∃i,C.T.get t=some i∧i.bQ=.slice e) (he:∃i,C.T.get e=some i∧i.bQ=.int .u8) (s:ByteArray) {K:Sl→Heap→Prop} (hk:∀r h',Sp h h' [pr r 1 aD (ft s)]→K r h'):
  av C.P (convert ts t (.string s)) (.one (.sc .slc)) h K:=by
 obtain⟨i1,a1,b1⟩:=hs
 obtain⟨i2,a2,b2⟩:=ht
 obtain⟨i3,a3,b3⟩:=he
 have u1:C.P.underlying ts=some .string:=by have:=hC.bQ a1;rw[b1]at this;exact nv this
 have u2:C.P.underlying t=some (.slice e):=by have:=hC.bQ a2;rw[b2]at this;exact gp this
 have u3:C.P.underlying e=some (.int .u8):=by have:=hC.bQ a3;rw[b3]at this;exact vl this
 unfold av convert
 refine af.bind (af.always (aA u1) ?_)
 refine af.bind (af.always (aA u2) ?_)
 refine af.bind (af.always (aA u3) ?_)
 unfold Conv.stringToBytes
 refine af.bind (af.zL ⟨fun hf=>(by cases hf),fun _ nn=>?_⟩)
 generalize hcc:Question.cut (Question.appendCap s.size 0 e) nn=cc
 have hcc':s.size≤cc:=by rw[←hcc];simp only[Question.cut];omega
 unfold newRow
 refine af.bind (af.bind (af.lz (af.pure' ?_)))
 unfold markStringish
 obtain⟨cs,hcs⟩:∃cs:Array Value,cs=s.data.map (fun b=>Value.int .u8 b.toNat)++Array.replicate (cc-s.size) (Value.int .u8 0):=⟨_,rfl⟩
 rw[←hcs]
 refine af.bind (af.bind (af.ME ?_))
 have hsh:shapeOf (h.push (.cells cs e)) h.size=some (e,cs.size):=by unfold shapeOf;simp
 dsimp only
 rw[hsh]
 refine af.IK (c:=cs) (e:=e) (by simp) rfl fun h' k1 k2 k3=>?_
 refine af.pure' ⟨⟨some ⟨h.size,0,none⟩,s.size,cc⟩,rfl,hk _ _ ?_⟩
 obtain⟨f,k3⟩:=k3
 refine .one ⟨by rw[k2];simp,fun b hb _=>by rw[k1 b (by omega),Array.getElem?_push,if_neg (by omega)]⟩ ?_
 refine⟨by rw[re],fun i x hx=>⟨h.size,0,rfl,⟨Nat.le_refl _,by rw[k2];simp⟩,?_,trivial⟩⟩
 rw[add_zero]
 have hi:i<s.data.size:=by have:=(List.getElem?_eq_some_iff.1 hx).1;simpa[ft]using this
 unfold cellOf
 simp only[k3,Nat.mul_one,Nat.zero_add,Option.isSome_none,Bool.false_eq_true,if_false]
 rw[hcs,Array.getElem?_append_left (by simpa using hi),Array.getElem?_map]
 have:s.data[i]?=some x:=by rw[←hx];simp[ft]
 rw[this];rfl
end
section
variable {C:Ctx} {t t2 e k:Nat} {z:List Value} {by_:Nat} {h h0:Heap} {B:aq} {As:List HP} {s:Sl} {l:List UInt8}
theorem BP (hC:C.Ok) (he:bH C.topU t e 1 z by_) (h2:∃i,C.T.get t2=some i∧i.bQ=.str) (hz:z.length=1) (hby:0<by_∧by_≤128)
  (ho:Own h e s 1 aD l) (x:ByteArray) (hsz:l.length+x.size≤2^32) {ty:Nat} {K:Sl→Heap→Prop}
  (hk:∀s' h',Own h' e s' 1 aD (l++ft x)→aE (fun b=>¬s.on b) h h'→(∀b,s'.on b→s.on b∨h.size≤b)→K s' h'):
  av C.P (Builtin.append_ #[t,t2] ty #[.slice s.ptr s.len s.cap,.string x]) (.one (.sc .slc)) h K:=by
 obtain⟨i2,g1,g2⟩:=h2
 have hu2:C.P.underlying t2=some .string:=by have:=hC.bQ g1;rw[g2]at this;exact nv this
 obtain⟨inf,x1,x2,x3,zv,x4,x5⟩:=he.info hC
 have hone:∀y∈(ft x).flatMap aD,y.oneCell'=true:=fun y hy=>by
  obtain⟨b,_,hb⟩:=List.mem_flatMap.1 hy
  exact fx b y hb
 have hcells:((x.extract 0 x.size).data.map fun b=>Value.int .u8 (b.toNat:Int))=((ft x).flatMap aD).toArray:=by
  have e0:x.extract 0 x.size=x:=by
   apply ByteArray.ext
   simp[ByteArray.data_extract]
  rw[e0]
  apply Array.ext'
  simp only[Array.toList_map,ft]
  exact List.map_eq_flatMap
 unfold av Builtin.append_
 simp only[List.getElem?_toArray,List.getElem?_cons_zero,List.getElem?_cons_succ]
 refine af.bind (af.always (aA (he.under hC)) ?_)
 refine af.bind (af.always (he.size hC) ?_)
 refine af.bind (af.always (aA hu2) ?_)
 refine af.bind (af.pure' ?_)
 simp only[Bool.false_eq_true,if_false,Bool.not_false,if_true]
 refine af.bind (af.pure' ?_)
 have hlen:=ho.len
 have hw:∀y,(aD y).length=1:=fun _=>rfl
 have hflat:=cn hw l
 have hflat2:=cn hw (ft x)
 have hxl:=re x
 have hfc:∀{h:Heap} {K:Array Value→Heap→Prop},K ((ft x).flatMap aD).toArray h→af C.P (Builtin.firstCells 1 x.size (.string x)) h K:=fun{h K} hK=>by
  unfold Builtin.firstCells
  dsimp only
  rw[hcells]
  exact af.pure' hK
 by_cases hfit:s.len+x.size≤s.cap
 ·rw[if_pos hfit]
  refine af.bind (hfc ?_)
  rcases ho.head with⟨p1,p2,p3⟩|⟨b,rest,p1,p2,p3,p4⟩
  ·rw[p1]
   have hx0:ft x=[]:=List.eq_nil_of_length_eq_zero (by omega)
   refine af.pure' ⟨⟨none,s.len+x.size,s.cap⟩,rfl,hk _ _ ⟨?_,.inl ⟨rfl,p2,by simp[p3,hx0]⟩⟩ (aE.refl _ _) ?_⟩
   ·simp;omega
   ·rintro b' ⟨o,ho'⟩;cases ho'
  ·rw[p1]
   refine af.bind ?_
   rw[add_eq,Nat.zero_add]
   have hrl:((ft x).flatMap aD).length≤rest.length:=by
    rw[hflat2,p3];omega
   refine cy (e:=e) (pre:=l.flatMap aD) (old:=rest.take ((ft x).flatMap aD).length) (post:=rest.drop ((ft x).flatMap aD).length) ?_ ?_ ?_ ?_ ?_
   ·rw[List.append_assoc,List.take_append_drop];exact p2
   ·rw[List.length_take];exact Nat.min_eq_left hrl
   ·rw[hflat,hlen];omega
   ·intro c hc;exact hone c (by simpa using hc)
   ·refine af.pure' ⟨⟨some ⟨b,0,none⟩,s.len+x.size,s.cap⟩,rfl,hk _ _ ⟨?_,.inr ⟨b,rest.drop ((ft x).flatMap aD).length,rfl,?_,?_,hfit⟩⟩ ?_ ?_⟩
    ·simp;omega
    ·rw[dN p2,if_pos rfl];simp
    ·rw[List.length_drop,p3,hflat2]
     show(s.cap-s.len)*1-(ft x).length*1=(s.cap-(s.len+x.size))*1
     omega
    ·exact aE.fa p2 (fun hn=>hn ⟨0,p1⟩)
    ·rintro b' ⟨o,ho'⟩;cases ho';exact .inl ⟨0,p1⟩
 ·rw[if_neg hfit]
  have hseq:Seq h (fun _=>True) s 1 aD l:=ho.seq hw (fun _ _=>trivial)
  have hcap:=ho.cap
  refine af.bind (af.always (bY x1) ?_)
  rw[if_neg (fun hh=>by rcases hh.2 with h|h<;>first|exact h|(rw[x3]at h;omega))]
  refine af.bind (af.always (bY x1) ?_)
  have hnx:=Gt (s.len+x.size) s.cap (by omega)
  rw[if_neg (by
   have:Builtin.nextslicecap (s.len+x.size) s.cap*inf.bytes≤(16*2^32+16*768)*128:=Nat.mul_le_mul (by omega) (by rw[x3];exact hby.2)
   omega)]
  refine af.bind (af.zL ⟨fun hf=>(by cases hf),fun _ nn=>?_⟩)
  refine af.bind (af.always (bY x1) ?_)
  refine af.bind (af.wK ?_)
  refine af.bind (dP hw hseq ?_)
  refine af.bind (hfc ?_)
  have hzv:ar C.P (zeroValue e) zv:=(bY x1).bind (by rw[x4];exact .pure)
  refine af.bind (af.always hzv ?_)
  rw[x5,tk]
  unfold newRow
  refine af.bind (af.bind (af.lz (af.pure' (af.pure' ?_))))
  generalize hcc:Question.cut (Question.appendCap (s.len+x.size) s.cap e) nn=cc
  have hcc':s.len+x.size≤cc:=by rw[←hcc];simp only[Question.cut];omega
  refine⟨⟨some ⟨h.size,0,none⟩,s.len+x.size,cc⟩,rfl,hk _ _ ⟨?_,.inr ⟨h.size,fp z (cc-(s.len+x.size)),rfl,?_,?_,hcc'⟩⟩ (aE.push _ _ _) ?_⟩
  ·simp;omega
  ·simp
  ·rw[j7,hz]
  ·rintro b' ⟨o,ho'⟩;cases ho';exact .inr (Nat.le_refl _)
theorem aa.IL (hC:C.Ok) (H:aa B h0 h As) (i:Nat) (hi:As[i]?=some (ak e s 1 aD l)) (he:bH C.topU t e 1 z by_) (h2:∃i,C.T.get t2=some i∧i.bQ=.str) (hz:z.length=1) (hby:0<by_∧by_≤128)
  (x:ByteArray) (hsz:l.length+x.size≤2^32) {ty:Nat} {K:Sl→Heap→Prop} (hk:∀s' h',aa B h0 h' (As.set i (ak e s' 1 aD (l++ft x)))→K s' h'):
  av C.P (Builtin.append_ #[t,t2] ty #[.slice s.ptr s.len s.cap,.string x]) (.one (.sc .slc)) h K:=by
 obtain⟨lo,pp,c,zz,a⟩:=H
 have ha:=a i _ hi
 refine BP hC he h2 hz hby ha.1 x hsz fun s' h' ho' hp' hn'=>hk s' h' ?_
 refine aa.vp lo pp zz a (hp'.mono fun b hb hn hc=>hn (ha.2 b hc)) ⟨ho',fun b hb=>⟨ho'.lt hb,?_⟩⟩
 rcases hn' b hb with h1|h1
 ·exact .inl (ha.2 b h1)
 ·exact .inr h1
end
end Go.Vc
namespace Wl
open Go
structure cu where
 name:ByteArray
 object:Int
 length:Int
 tries:List Int
structure aC where
 seq:Int
 next:Int
 p:Int×Int×Int
 extra:Int
 drives:List Int
 aG:List cu
def NA:cu:=⟨⟨#[]⟩,0,0,[]⟩
def kA (l:List cu) (i:Nat):cu:=l.getD i NA
theorem kb {l:List cu} {i:Nat} (h:i<l.length):kA l i=l[i]:=by unfold kA;rw[List.getD_eq_getElem?_getD,List.getElem?_eq_getElem h];rfl
def de (n a b:Int):Bool:=decide (a≤n)&&decide (n≤b)
def jb (c:UInt8):Bool:=(decide (97≤c.toNat)&&decide (c.toNat≤122))||(decide (48≤c.toNat)&&decide (c.toNat≤57))||decide (c.toNat=45)
def gq (s:ByteArray):Bool:=s.data.toList.all jb&&(decide (1≤s.size)&&decide (s.size≤12))
def db (a b:ByteArray):Bool:=Op.bytesLess a.toList b.toList
def fX (l:List Int) (most:Int) (i:Nat):Bool:=de (l.getD i 0) 0 most&&(decide (i=0)||decide (l.getD (i-1) 0<l.getD i 0))
def kB (l:List Int) (most:Int):Bool:=(List.range l.length).all (fX l most)
def countP (p:Int×Int×Int) (n:Int):Int:=if bO p&&decide (0<n)then(n-1)/(p.1*p.2.2)+1 else 0
def eW (m:aC) (x:cu):Bool:=
 gq x.name&&(de x.object 0 (m.next-1)&&(de x.length 0 (m.p.1*m.p.2.2*8)&&(x.tries.all (de · 0 15)&&decide ((x.tries.length:Int)=countP m.p x.length))))
def kC (m:aC) (i:Nat):Bool:=
 eW m (kA m.aG i)&&((decide (i=0)||db (kA m.aG (i-1)).name (kA m.aG i).name)&&!(m.aG.take i).any fun y=>decide (y.object=(kA m.aG i).object))
def gQ (m:aC):Bool:=de m.seq 1 2147483647&&(de m.next 0 16777216&&(bO m.p&&de m.extra 0 16))
def bG (m:aC):Bool:=gQ m&&(kB m.drives 63&&(decide (m.aG.length≤12)&&(List.range m.aG.length).all (kC m)))
theorem tG {p:Nat→Bool} {n i:Nat} (hi:i<n) (h:p i=false):(List.range n).all p=false:=List.all_eq_false.2 ⟨i,List.mem_range.2 hi,by rw[h];simp⟩
theorem mI {p:Nat→Bool} {n:Nat} (h:∀i,i<n→p i=true):(List.range n).all p=true:=List.all_eq_true.2 fun i hi=>h i (List.mem_range.1 hi)
def bw (n:Int) (k:Nat):List UInt8:=(List.range k).map fun i=>b8 (Int.fdiv n (2^(8*(k-1-i))))
theorem bE (n:Int) (k:Nat):(bw n k).length=k:=by simp[bw]
def fH (x:cu):List UInt8:=b8 x.name.size::(x.name.data.toList++(bw x.object 3++(bw x.length 2++x.tries.map b8)))
def gr (m:aC):List UInt8:=
 if bG m then bw m.seq 4++(bw m.next 4++([b8 m.p.1,b8 m.p.2.1,b8 m.p.2.2,b8 m.extra,b8 m.drives.length]++(m.drives.map b8++(b8 m.aG.length::m.aG.flatMap fH))))else[]
def lF (seq number many:Int) (b:List UInt8):List UInt8:=cP 2 (bw seq 4++([b8 number,b8 many,b8 b.length]++b))
def gu (b:List UInt8):Nat:=(b.length+47)/48
def aZ (m:aC):List (List UInt8):=(List.range (gu (gr m))).map fun i:Nat=>lF m.seq i (gu (gr m)) (((gr m).drop (48*i)).take 48)
theorem IM {m:aC} (h:bG m=true):gQ m=true:=by unfold bG at h;simp at h;exact h.1
theorem Di {m:aC} (h:gQ m=true):(1≤m.seq∧m.seq≤2147483647)∧(0≤m.next∧m.next≤16777216)∧bO m.p=true∧0≤m.extra∧m.extra≤16:=by
 unfold gQ de at h;simpa[and_assoc]using h
theorem rf {m:aC} {c:List UInt8} (h:c∈aZ m):c.length=64:=by
 unfold aZ at h
 obtain⟨i,_,rfl⟩:=List.mem_map.1 h
 exact jU (by decide) (by decide) (by simp[bE];omega)
end Wl
namespace Wl
open Go
structure di where
 object:Int
 block:Int
 id:Int
 p:Int×Int×Int
 seed:Int
 data:List UInt8
theorem tH (n:Int):((b8 n).toNat:Int)=n%256:=by
 have h0:=Int.emod_nonneg n (show(256:Int)≠0 by decide)
 have h1:=Int.emod_lt_of_pos n (show(0:Int)<256 by decide)
 unfold b8
 rw[UInt8.toNat_ofNat']
 omega
def gY (r:di):Bool:=(de r.object 0 16777215&&(de r.block 0 7&&bZ r.id))&&(bO r.p&&decide ((r.data.length:Int)=r.p.2.2))
def fm (r:di):List UInt8:=bw r.object 3++(bw r.block 1++(bw r.id 2++([b8 r.p.1,b8 r.p.2.1,b8 r.p.2.2]++(bw r.seed 4++r.data))))
def dz (r:di):List UInt8:=if gY r then cP 1 (fm r)else[]
def cj (l:List UInt8):Int:=l.foldl (fun n x=>n*256+x.toNat) 0
def jr (c:List UInt8):Option (Int×List UInt8):=
 if c.length=64∧cP ((c.getD 3 0).toNat:Int) ((c.drop 4).take 55)=c then some (((c.getD 3 0).toNat:Int),(c.drop 4).take 55)else none
def vv (x:List UInt8):di:=
 ⟨cj (x.take 3),cj ((x.drop 3).take 1),cj ((x.drop 4).take 2),(cj ((x.drop 6).take 1),cj ((x.drop 7).take 1),cj ((x.drop 8).take 1)),cj ((x.drop 9).take 4),(x.drop 13).take (cj ((x.drop 8).take 1)).toNat⟩
def dW (c:List UInt8):Option di:=
 match jr c with
 |some (k,x)=>if k=1∧bO (vv x).p=true∧dz (vv x)=c then some (vv x)else none
 |none=>none
theorem IN (n:Int):bw n 1=[b8 n]:=by simp[bw]
theorem IP (n:Int):bw n 2=[b8 (Int.fdiv n (2^8)),b8 n]:=by simp[bw,List.range_succ]
theorem E3 (n:Int):bw n 3=[b8 (Int.fdiv n (2^16)),b8 (Int.fdiv n (2^8)),b8 n]:=by simp[bw,List.range_succ]
theorem Hd (n:Int):bw n 4=[b8 (Int.fdiv n (2^24)),b8 (Int.fdiv n (2^16)),b8 (Int.fdiv n (2^8)),b8 n]:=by simp[bw,List.range_succ]
theorem rh {n:Int} (h0:0≤n) (h1:n<256):cj [b8 n]=n:=by
 simp only[cj,List.foldl_cons,List.foldl_nil,tH];omega
theorem fdiv_pow (n:Int) (k:Nat):Int.fdiv n (2^k)=n/(2^k):=Int.fdiv_eq_ediv_of_nonneg _ (Int.pow_nonneg (by decide))
theorem Kp {n:Int} (h0:0≤n) (h1:n<65536):cj (bw n 2)=n:=by
 rw[IP,fdiv_pow]
 simp only[cj,List.foldl_cons,List.foldl_nil,tH];omega
theorem He {n:Int} (h0:0≤n) (h1:n<16777216):cj (bw n 3)=n:=by
 rw[E3,fdiv_pow,fdiv_pow]
 simp only[cj,List.foldl_cons,List.foldl_nil,tH];omega
theorem IQ {n:Int} (h0:0≤n) (h1:n<4294967296):cj (bw n 4)=n:=by
 rw[Hd,fdiv_pow,fdiv_pow,fdiv_pow]
 simp only[cj,List.foldl_cons,List.foldl_nil,tH];omega
theorem iu (r:di):gY r=true↔(0≤r.object∧r.object≤16777215)∧(0≤r.block∧r.block≤7)∧(0≤r.id∧r.id≤65535)∧bO r.p=true∧(r.data.length:Int)=r.p.2.2:=by
 unfold gY de bZ;simp[and_assoc]
theorem mf {r:di} (h:gY r=true):(fm r).length=13+r.data.length∧r.data.length≤24:=by
 obtain⟨_,_,_,h4,h5⟩:=(iu r).1 h
 have:=(bP r.p).1 h4
 refine⟨by unfold fm;simp[bE];omega,by omega⟩
theorem Dj {r:di} (h:gY r=true):(dz r).length=64:=by
 have:=mf h
 unfold dz;rw[if_pos h]
 exact jU (by decide) (by decide) (by omega)
theorem Bb {k:Int} {body:List UInt8} (h1:1≤k) (h2:k≤255) (h3:body.length≤55):jr (cP k body)=some (k,body++List.replicate (55-body.length) 0):=by
 obtain⟨x,hx⟩:∃x,x=body++List.replicate (55-body.length) 0:=⟨_,rfl⟩
 have hxl:x.length=55:=by rw[hx];simp;omega
 have e0:cP k body=[87,115,1,b8 k]++(x++(ka (p7 (cD k body))++[165])):=by
  unfold cP
  rw[if_pos ⟨h1,h2,h3⟩]
  unfold cD
  rw[hx];simp[List.append_assoc]
 have e1:((cP k body).getD 3 0)=b8 k:=by rw[e0];rfl
 have e2:((cP k body).drop 4).take 55=x:=by
  rw[e0]
  have:([87,115,1,b8 k]++(x++(ka (p7 (cD k body))++[165]))).drop 4=x++(ka (p7 (cD k body))++[165]):=rfl
  rw[this,List.take_append_of_le_length (by omega),List.take_of_length_le (by omega)]
 have e3:((b8 k).toNat:Int)=k:=by rw[tH];omega
 have e4:cD k x=cD k body:=by
  unfold cD
  rw[hxl,hx];simp[List.append_assoc]
 have e5:cP k x=cP k body:=by
  unfold cP
  rw[if_pos ⟨h1,h2,by omega⟩,if_pos ⟨h1,h2,h3⟩,e4]
 unfold jr
 rw[e1,e2,e3,if_pos ⟨jU h1 h2 h3,e5⟩,hx]
theorem Hg {r:di} (h:gY r=true) (hs:0≤r.seed∧r.seed<4294967296) (z:List UInt8):vv (fm r++z)=r:=by
 obtain⟨h1,h2,h3,h4,h5⟩:=(iu r).1 h
 have hp:=(bP r.p).1 h4
 have l1:=bE r.object 3
 have l2:=bE r.id 2
 have l3:=bE r.seed 4
 have e:fm r++z=bw r.object 3++([b8 r.block]++(bw r.id 2++([b8 r.p.1]++([b8 r.p.2.1]++([b8 r.p.2.2]++(bw r.seed 4++(r.data++z))))))):=by
  unfold fm;rw[IN];simp[List.append_assoc]
 have hd:∀(u v:List UInt8) (n:Nat),u.length=n→∀m,(u++v).drop (n+m)=v.drop m:=fun u v n hn m=>by
  rw[←List.drop_drop,←hn,List.drop_left]
 have ht:∀(u v:List UInt8) (n:Nat),u.length=n→(u++v).take n=u:=fun u v n hn=>by rw[←hn,List.take_left]
 have d3:(fm r++z).drop 3=[b8 r.block]++(bw r.id 2++([b8 r.p.1]++([b8 r.p.2.1]++([b8 r.p.2.2]++(bw r.seed 4++(r.data++z)))))):=by rw[e];exact hd _ _ 3 l1 0
 have d4:(fm r++z).drop 4=bw r.id 2++([b8 r.p.1]++([b8 r.p.2.1]++([b8 r.p.2.2]++(bw r.seed 4++(r.data++z))))):=by
  rw[show 4=3+1 from rfl,←List.drop_drop,d3];rfl
 have d6:(fm r++z).drop 6=[b8 r.p.1]++([b8 r.p.2.1]++([b8 r.p.2.2]++(bw r.seed 4++(r.data++z)))):=by
  rw[show 6=4+2 from rfl,←List.drop_drop,d4];exact hd _ _ 2 l2 0
 have d7:(fm r++z).drop 7=[b8 r.p.2.1]++([b8 r.p.2.2]++(bw r.seed 4++(r.data++z))):=by
  rw[show 7=6+1 from rfl,←List.drop_drop,d6];rfl
 have d8:(fm r++z).drop 8=[b8 r.p.2.2]++(bw r.seed 4++(r.data++z)):=by
  rw[show 8=7+1 from rfl,←List.drop_drop,d7];rfl
 have d9:(fm r++z).drop 9=bw r.seed 4++(r.data++z):=by
  rw[show 9=8+1 from rfl,←List.drop_drop,d8];rfl
 have d13:(fm r++z).drop 13=r.data++z:=by
  rw[show 13=9+4 from rfl,←List.drop_drop,d9];exact hd _ _ 4 l3 0
 have t8:cj (((fm r++z).drop 8).take 1)=r.p.2.2:=by rw[d8,ht _ _ 1 rfl,rh (by omega) (by omega)]
 unfold vv
 rw[t8,d3,d4,d6,d7,d9,d13]
 rw[ht [b8 r.block] _ 1 rfl,ht _ _ 2 l2,ht [b8 r.p.1] _ 1 rfl,ht [b8 r.p.2.1] _ 1 rfl,ht _ _ 4 l3]
 have t0:(fm r++z).take 3=bw r.object 3:=by rw[e];exact ht _ _ 3 l1
 rw[t0,He (by omega) (by omega),rh (by omega) (by omega),Kp (by omega) (by omega),rh (by omega) (by omega),rh (by omega) (by omega),IQ (by omega) (by omega)]
 have:r.p.2.2.toNat=r.data.length:=by omega
 rw[this,List.take_left]
theorem IS {r:di} (h:gY r=true) (hs:0≤r.seed∧r.seed<4294967296):dW (dz r)=some r:=by
 have hl:=mf h
 have h4:=((iu r).1 h).2.2.2.1
 have e:dz r=cP 1 (fm r):=by unfold dz;rw[if_pos h]
 unfold dW
 rw[e,Bb (by decide) (by decide) (by omega)]
 dsimp only
 rw[Hg h hs,if_pos ⟨rfl,h4,e⟩]
end Wl
namespace Go.Vc
open Go
section
variable {C:Ctx} {h:Heap} {t e ts:Nat}
theorem vX:∀(l:List UInt8) (b:ByteArray),l.foldl ByteArray.push b=⟨(b.data.toList++l).toArray⟩
 |[],b=>by simp
 |x::l,b=>by
  rw[List.foldl_cons,vX l (b.push x)]
  simp[ByteArray.push]
theorem GB (hC:C.Ok) (ht:∃i,C.T.get t=some i∧i.bQ=.slice e) (hs:∃i,C.T.get ts=some i∧i.bQ=.str) (he:∃i,C.T.get e=some i∧i.bQ=.int .u8) {s:Sl} {l:List UInt8} {p:aq} (hv:Seq h p s 1 aD l) {K:ByteArray→Heap→Prop} (hk:K ⟨l.toArray⟩ h):
  av C.P (convert t ts (.slice s.ptr s.len s.cap)) (.one (.sc .str)) h K:=by
 obtain⟨i1,a1,b1⟩:=hs
 obtain⟨i2,a2,b2⟩:=ht
 obtain⟨i3,a3,b3⟩:=he
 have u1:C.P.underlying ts=some .string:=by have:=hC.bQ a1;rw[b1]at this;exact nv this
 have u2:C.P.underlying t=some (.slice e):=by have:=hC.bQ a2;rw[b2]at this;exact gp this
 have u3:C.P.underlying e=some (.int .u8):=by have:=hC.bQ a3;rw[b3]at this;exact vl this
 unfold av convert
 refine af.bind (af.always (aA u2) ?_)
 refine af.bind (af.always (aA u1) ?_)
 refine af.bind (af.always (aA u3) ?_)
 unfold Conv.bytesToString
 have hfc:=dP (P:=C.P) (f:=aD) (k:=1) (K:=fun cs h'=>cs=(l.flatMap aD).toArray∧h'=h) (fun _=>rfl) hv ⟨rfl,rfl⟩
 cases hp:s.ptr with
 |none=>
  have:l=[]:=by
   cases l with
   |nil=>rfl
   |cons x r=>obtain⟨b,o,h1,_⟩:=hv.elem 0 x (by simp);rw[hp]at h1;cases h1
  subst this
  exact af.pure' ⟨⟨#[]⟩,rfl,hk⟩
 |some a=>
  rw[hp]at hfc
  dsimp only
  have hfc':af C.P (loadCells a s.len) h fun cs h'=>cs=(l.flatMap aD).toArray∧h'=h:=by
   have:Builtin.firstCells 1 s.len (.slice (some a) s.len s.cap)=loadCells a s.len:=by
    unfold Builtin.firstCells;simp
   rw[←this];exact hfc
  refine af.bind (hfc'.mono ?_)
  rintro _ _ ⟨rfl,rfl⟩
  have key:∀(l:List UInt8) (b:ByteArray),ar C.P (forIn (m:=Sem) (l.flatMap aD) b fun c r=>match c with
    | .int .u8 n=>do pure (ForInStep.yield (r.push (UInt8.ofNat n.toNat)))
    |_=>do let r←stuck "bytesToString: byte expected";pure r) (l.foldl ByteArray.push b):=fun l=>by
   induction l with
   |nil=>intro b;exact .pure
   |cons x l ih=>
    intro b
    have e1:(x::l).flatMap aD=Value.int .u8 x.toNat::l.flatMap aD:=rfl
    rw[e1,List.forIn_cons]
    have e2:b.push (UInt8.ofNat ((x.toNat:Int)).toNat)=b.push x:=by
     rw[Int.toNat_natCast];congr 1;apply UInt8.toNat_inj.1;simp
    refine ar.bind (v:=ForInStep.yield (b.push x)) (by dsimp only;rw[e2];exact .pure) ?_
    exact ih _
  refine af.bind (af.always (v:=l.foldl ByteArray.push ByteArray.empty) ?_ ?_)
  ·rw[List.forIn_toArray]
   exact key l _
  ·refine af.pure' ⟨_,rfl,?_⟩
   rw[vX]
   exact hk
end
end Go.Vc
namespace Wl
section
variable {α:Type} (le:α→α→Bool)
def fi (a b:α):Bool:=le a b&&le b a
def bC (l l':List α):Prop:=∀x,l.filter (fi le x)=l'.filter (fi le x)
def Sd (l:List α):Prop:=l.Pairwise fun a b=>le a b=true
structure Ord:Prop where
 trans:∀a b c,le a b=true→le b c=true→le a c=true
 total:∀a b,(le a b||le b a)=true
variable {le}
theorem Ord.tI (o:Ord le) {a b:α} (h:¬le a b=true):le b a=true:=by
 have:=o.total a b
 cases h1:le a b with
 |true=>exact absurd h1 h
 |false=>rw[h1]at this;simpa using this
theorem Ord.refl (o:Ord le) (a:α):le a a=true:=by have:=o.total a a;simpa using this
theorem bC.refl (l:List α):bC le l l:=fun _=>rfl
theorem bC.trans {l1 l2 l3:List α} (h:bC le l1 l2) (k:bC le l2 l3):bC le l1 l3:=fun x=>(h x).trans (k x)
theorem bC.symm {l1 l2:List α} (h:bC le l1 l2):bC le l2 l1:=fun x=>(h x).symm
theorem bC.app {a b c d:List α} (h:bC le a b) (k:bC le c d):bC le (a++c) (b++d):=fun x=>by
 rw[List.filter_append,List.filter_append,h x,k x]
theorem bC.mem (o:Ord le) {l l':List α} (h:bC le l l') {y:α} (hy:y∈l'):y∈l:=by
 have h1:y∈l'.filter (fi le y):=List.mem_filter.2 ⟨hy,by unfold fi;rw[o.refl];rfl⟩
 rw[←h y]at h1
 exact(List.mem_filter.1 h1).1
theorem bC.IT (o:Ord le) {u v:List α} (h:∀x∈u,∀y∈v,¬le x y=true):bC le (u++v) (v++u):=fun z=>by
 rw[List.filter_append,List.filter_append]
 by_cases hu:u.filter (fi le z)=[]
 ·rw[hu];simp
 ·by_cases hv:v.filter (fi le z)=[]
  ·rw[hv];simp
  ·exfalso
   obtain⟨x,hx⟩:=List.exists_mem_of_ne_nil _ hu
   obtain⟨y,hy⟩:=List.exists_mem_of_ne_nil _ hv
   obtain⟨hx1,hx2⟩:=List.mem_filter.1 hx
   obtain⟨hy1,hy2⟩:=List.mem_filter.1 hy
   unfold fi at hx2 hy2
   simp only[Bool.and_eq_true]at hx2 hy2
   exact h x hx1 y hy1 (o.trans _ _ _ hx2.2 hy2.1)
theorem bC.Dk (o:Ord le) {l:List α} (h:bC le [] l):l=[]:=by
 cases l with
 |nil=>rfl
 |cons a l=>exact absurd (bC.mem o h (List.mem_cons_self ..)) (by simp)
theorem Bc (o:Ord le):∀(l l':List α),Sd le l→Sd le l'→bC le l l'→l=l'
 |[],l',_,_,h=>(bC.Dk o h).symm
 |a::l,[],_,_,h=>absurd (bC.Dk o h.symm) (by simp)
 |a::l,b::l',s,s',h=>by
  have hab:a=b:=by
   have h1:le a b=true:=by
    have:=bC.mem o h (y:=b) (List.mem_cons_self ..)
    rcases List.mem_cons.1 this with e|e
    ·rw[e];exact o.refl _
    ·exact(List.pairwise_cons.1 s).1 _ e
   have h2:le b a=true:=by
    have:=bC.mem o h.symm (y:=a) (List.mem_cons_self ..)
    rcases List.mem_cons.1 this with e|e
    ·rw[e];exact o.refl _
    ·exact(List.pairwise_cons.1 s').1 _ e
   have h3:=h a
   have e1:fi le a a=true:=by unfold fi;rw[o.refl];rfl
   have e2:fi le a b=true:=by unfold fi;rw[h1,h2];rfl
   rw[List.filter_cons_of_pos e1,List.filter_cons_of_pos e2]at h3
   injection h3
  subst hab
  rw[Bc o l l' (List.pairwise_cons.1 s).2 (List.pairwise_cons.1 s').2 fun x=>by
   have h3:=h x
   rw[List.filter_cons,List.filter_cons]at h3
   split at h3
   ·injection h3
   ·exact h3]
theorem tJ (o:Ord le) (l:List α):Sd le (l.mergeSort le)∧bC le l (l.mergeSort le):=by
 refine⟨List.pairwise_mergeSort o.trans o.total l,fun x=>?_⟩
 have hp:(l.filter (fi le x)).Pairwise fun a b=>le a b=true:=by
  rw[List.pairwise_filter]
  refine List.Pairwise.imp ?_ (List.pairwise_of_forall (l:=l) (R:=fun _ _=>True) fun _ _=>trivial)
  intro a b _ ha hb
  unfold fi at ha hb
  simp only[Bool.and_eq_true]at ha hb
  exact o.trans _ _ _ ha.2 hb.1
 have hs:=List.sublist_mergeSort o.trans o.total hp List.filter_sublist
 have hs2:=hs.filter (fi le x)
 rw[List.filter_filter]at hs2
 simp only[Bool.and_self]at hs2
 exact hs2.eq_of_length ((List.mergeSort_perm l le).symm.filter _).length_eq
theorem Hi (o:Ord le) {l l':List α} (s:Sd le l') (h:bC le l l'):l'=l.mergeSort le:=by
 obtain⟨h1,h2⟩:=tJ o l
 exact Bc o _ _ s h1 (h.symm.trans h2)
theorem Sd.app (o:Ord le) {u v:List α} (hu:Sd le u) (hv:Sd le v) (h:∀x∈u,∀y∈v,le x y=true):Sd le (u++v):=List.pairwise_append.2 ⟨hu,hv,h⟩
theorem Sd.left {u v:List α} (h:Sd le (u++v)):Sd le u:=(List.pairwise_append.1 h).1
theorem Sd.right {u v:List α} (h:Sd le (u++v)):Sd le v:=(List.pairwise_append.1 h).2.1
theorem Sd.vw {u v:List α} (h:Sd le (u++v)):∀x∈u,∀y∈v,le x y=true:=(List.pairwise_append.1 h).2.2
theorem Sd.at_ (o:Ord le) {l:List α} (h:Sd le l) {i j:Nat} (hij:i≤j) (hj:j<l.length):le (l[i]'(by omega)) l[j]=true:=by
 by_cases e:i=j
 ·subst e;exact o.refl _
 ·exact List.pairwise_iff_getElem.1 h i j (by omega) hj (by omega)
theorem IU (o:Ord le) {l1 l2 r1 r2 m1 m2:List α} (hL:Sd le (l1++l2)) (hR:Sd le (r1++r2)) (h12:∀x∈l1,∀y∈r2,le x y=true) (h21:∀x∈l2,∀y∈r1,¬le x y=true)
  (e1:bC le (l1++r1) m1) (s1:Sd le m1) (e2:bC le (l2++r2) m2) (s2:Sd le m2):Sd le (m1++m2)∧bC le ((l1++l2)++(r1++r2)) (m1++m2):=by
 constructor
 ·refine Sd.app o s1 s2 fun x hx y hy=>?_
  rcases List.mem_append.1 (bC.mem o e1 hx)with hx|hx<;>rcases List.mem_append.1 (bC.mem o e2 hy)with hy|hy
  ·exact hL.vw x hx y hy
  ·exact h12 x hx y hy
  ·exact o.tI (h21 y hy x hx)
  ·exact hR.vw x hx y hy
 ·have h1:bC le ((l1++l2)++(r1++r2)) ((l1++r1)++(l2++r2)):=by
   rw[show(l1++l2)++(r1++r2)=l1++((l2++r1)++r2)by simp,show(l1++r1)++(l2++r2)=l1++((r1++l2)++r2)by simp]
   exact(bC.refl _).app ((bC.IT o h21).app (bC.refl _))
  exact h1.trans (e1.app e2)
end
end Wl
namespace Wl
section
variable {α:Type} {le:α→α→Bool}
theorem nz (o:Ord le):∀{l l':List α},bC le l l'→l.length=l'.length
 |[],l',h=>by rw[bC.Dk o h]
 |a::l,l',h=>by
  have hm:=bC.mem o h.symm (y:=a) (List.mem_cons_self ..)
  obtain⟨u,v,hl'⟩:=List.append_of_mem hm
  have key:∃(u:List α) (b:α) (v:List α),l'=u++b::v∧(∀x∈u,fi le a x=false)∧fi le a b=true:=by
   have hne:l'.filter (fi le a)≠[]:=fun hh=>by
    have:a∈l'.filter (fi le a):=List.mem_filter.2 ⟨hm,by unfold fi;rw[o.refl];rfl⟩
    rw[hh]at this;cases this
   clear hl' u v hm h
   induction l' with
   |nil=>exact absurd rfl hne
   |cons c l' ih=>
    by_cases hc:fi le a c=true
    ·exact⟨[],c,l',rfl,by simp,hc⟩
    ·rw[List.filter_cons_of_neg hc]at hne
     obtain⟨u,b,v,e,f,g⟩:=ih hne
     refine⟨c::u,b,v,by rw[e];rfl,fun x hx=>?_,g⟩
     rcases List.mem_cons.1 hx with rfl|hx
     ·simpa using hc
     ·exact f x hx
  obtain⟨u,b,v,rfl,hu,hb⟩:=key
  have e1:fi le a a=true:=by unfold fi;rw[o.refl];rfl
  have hfa:=h a
  have hun:u.filter (fi le a)=[]:=List.filter_eq_nil_iff.2 fun x hx=>by rw[hu x hx];simp
  rw[List.filter_cons_of_pos e1,List.filter_append,hun,List.nil_append,List.filter_cons_of_pos hb]at hfa
  have hab:a=b:=by injection hfa
  subst hab
  have h2:bC le l (u++v):=fun x=>by
   have hx:=h x
   rw[List.filter_cons,List.filter_append,List.filter_cons]at hx
   rw[List.filter_append]
   by_cases hxa:fi le x a=true
   ·rw[if_pos hxa,if_pos hxa]at hx
    have hux:u.filter (fi le x)=[]:=List.filter_eq_nil_iff.2 fun y hy hxy=>by
     have:=hu y hy
     unfold fi at this hxa hxy
     simp only[Bool.and_eq_true]at hxa hxy
     rw[o.trans _ _ _ hxa.2 hxy.1,o.trans _ _ _ hxy.2 hxa.1]at this
     cases this
    rw[hux,List.nil_append]at hx⊢
    injection hx
   ·rw[if_neg hxa,if_neg hxa]at hx
    exact hx
  rw[List.length_cons,nz o h2]
  simp;omega
end
end Wl
