/- Part of the proofs that the laws of this seat answer true whatever the input reads, and leave it as it was; no condition. -/
import Derived.Test.YtkciobclldnoiaaGreatPlA
import Derived.Test.YtkciobclldnoiaaGreatPlB
set_option linter.unusedVariables false
set_option linter.unusedSimpArgs false
namespace Wl
def bU (p:Int×Int×Int):Bool:=decide (p.1≥1)&&(decide (p.1≤16)&&(decide (p.2.1≥1)&&(decide (p.2.1≤4)&&(decide (p.2.2≥1)&&decide (p.2.2≤24)))))
theorem cg (p:Int×Int×Int):bU p=true↔(1≤p.1∧p.1≤16)∧(1≤p.2.1∧p.2.1≤4)∧1≤p.2.2∧p.2.2≤24:=by
 simp[bU,and_assoc]
def dc (p:Int×Int×Int):Int:=if bU p then p.1+p.2.1 else 0
end Wl
namespace Wl
open Go
def CX (s:Int):Int:=IntKind.wrap .u64 (IntKind.wrap .u64 (s*(6364136223846793005:Int))+(1442695040888963407:Int))
def told (s:Int):Int:=IntKind.wrap .u32 (Int.fdiv (CX s) (2^min (32:Int).toNat (IntKind.bits .u64)))
def jk (s n:Int):Int:=IntKind.wrap .i64 (Int.tmod (IntKind.wrap .u64 (told s)) (IntKind.wrap .u64 n))
theorem wrap_u64 (x:Int):IntKind.wrap .u64 x=x%18446744073709551616:=rfl
theorem sX (s n:Int) (h1:0<n) (h2:n≤2^62):0≤jk s n∧jk s n<n:=by
 unfold jk
 have e1:IntKind.wrap .u64 n=n:=by rw[wrap_u64];omega
 rw[e1]
 have e0:0≤IntKind.wrap .u64 (told s):=by rw[wrap_u64];omega
 have e2:=Int.tmod_lt_of_pos (IntKind.wrap .u64 (told s)) h1
 have e3:0≤Int.tmod (IntKind.wrap .u64 (told s)) n:=Int.tmod_nonneg n e0
 rw[Go.Vc.wrap_small _ (by omega) (by omega)]
 exact⟨e3,e2⟩
def sY (l:List Int) (i:Nat):Int:=l.getD i 0
def xp (l:List Int) (i j:Nat):List Int:=(l.set i (sY l j)).set j (sY l i)
theorem Mh (l:List Int) (i j:Nat):(xp l i j).length=l.length:=by simp[xp]
def fp (n:Nat) (s:Int) (l:List Int):Nat→Int×List Int
 |0=>(s,l)
 |k+1=>(CX (fp n s l k).1,xp (fp n s l k).2 k (k+(jk (fp n s l k).1 ((n-k:Nat):Int)).toNat))
theorem sZ (n:Nat) (s:Int) (l:List Int):∀k,(fp n s l k).2.length=l.length
 |0=>rfl
 |k+1=>by rw[fp,Mh,sZ n s l k]
theorem yQ {l:List Int} {i:Nat} (h:i<l.length):sY l i∈l:=by
 rw[sY,List.getD_eq_getElem?_getD,List.getElem?_eq_getElem h];exact List.getElem_mem h
theorem Mi {l:List Int} {i j:Nat} (hi:i<l.length) (hj:j<l.length) {x:Int} (hx:x∈xp l i j):x∈l:=by
 rcases List.mem_or_eq_of_mem_set hx with h|h
 ·rcases List.mem_or_eq_of_mem_set h with h|h
  ·exact h
  ·rw[h];exact yQ hj
 ·rw[h];exact yQ hi
def upto (n:Nat):List Int:=(List.range n).map fun i:Nat=>(i:Int)
theorem hY (n:Nat):(upto n).length=n:=by simp[upto]
theorem yR (n:Nat) (s:Int):∀k,k≤n→∀x∈(fp n s (upto n) k).2,0≤x∧x<n
 |0,_,x,hx=>by
  simp only[fp,upto,List.mem_map,List.mem_range]at hx
  obtain⟨i,hi,rfl⟩:=hx
  omega
 |k+1,hk,x,hx=>by
  have hb:k<n→n-k≤2^62→k+(jk (fp n s (upto n) k).1 ((n-k:Nat):Int)).toNat<n:=fun h1 h2=>by
   have:=sX (fp n s (upto n) k).1 ((n-k:Nat):Int) (by omega) (by omega)
   omega
  have hl:=sZ n s (upto n) k
  rw[hY]at hl
  by_cases hbig:n-k≤2^62
  ·refine yR n s k (by omega) x (Mi (by omega) ?_ hx)
   have:=hb (by omega) hbig
   omega
  ·--beyond any size:what is set is 0 or a member
   have key:∀y∈xp (fp n s (upto n) k).2 k (k+(jk (fp n s (upto n) k).1 ((n-k:Nat):Int)).toNat),y∈(fp n s (upto n) k).2∨y=0:=by
    intro y hy
    have g:∀i,sY (fp n s (upto n) k).2 i∈(fp n s (upto n) k).2∨sY (fp n s (upto n) k).2 i=0:=fun i=>by
     by_cases h:i<(fp n s (upto n) k).2.length
     ·exact .inl (yQ h)
     ·right;simp only[sY,List.getD_eq_getElem?_getD];rw[List.getElem?_eq_none (by omega)];rfl
    rcases List.mem_or_eq_of_mem_set hy with h|h
    ·rcases List.mem_or_eq_of_mem_set h with h|h
     ·exact .inl h
     ·rw[h];exact g _
    ·rw[h];exact g _
   rcases key x hx with h|h
   ·exact yR n s k (by omega) x h
   ·subst h;omega
def fG (l:List Int):List Int:=l.mergeSort fun x y=>decide (x≤y)
theorem CY (l:List Int):(fG l).length=l.length:=List.length_mergeSort l
theorem CZ (l:List Int) (x:Int):x∈fG l↔x∈l:=List.mem_mergeSort
def zT (s:Int) (n k:Nat):List Int:=fG ((fp n s (upto n) k).2.take k)
theorem Mj {s:Int} {n k:Nat} (hk:k≤n) {x:Int} (hx:x∈zT s n k):0≤x∧x<n:=
 yR n s k hk x (List.mem_of_mem_take ((CZ _ _).1 hx))
theorem Mk (s:Int) (n k:Nat) (hk:k≤n):(zT s n k).length=k:=by
 rw[zT,CY,List.length_take,sZ,hY];omega
def dJ (l:Nat):Nat:=if l≤1 then l else if l≤4 then 2 else if l≤9 then 3 else if l≤16 then 4 else 5
def xq (r:Nat):Nat:=if r=0 then 0 else if r=1 then 1 else if r≤3 then 2 else 3
def mD (l k:Nat):Nat:=
 (if k>1 then 1048576/(k*(k-1))else 1048576/l)+
  (if k<l/dJ l then 1048576*dJ l/(l*k)else if k=l/dJ l then 1048576*dJ l*xq (dJ l)/l else 0)
def jL (l:Nat):Nat→Nat
 |0=>0
 |k+1=>jL l k+mD l (k+1)
def gx (l:Nat):List Int:=(List.range l).map fun k=>((jL l (k+1):Nat):Int)
theorem iS (l:Nat):(gx l).length=l:=by simp[gx]
def Jd (t:List Int) (x:Int):Nat:=(t.findIdx fun y=>decide (y>x))+1
theorem zU:∀l,l≤20→∀k,k≤20→mD l k≤2^30:=by decide+kernel
theorem xr (l:Nat) (hl:l≤20):∀k,k≤20→jL l k≤k*2^30
 |0,_=>by simp[jL]
 |k+1,hk=>by
  have:=xr l hl k (by omega)
  have:=zU l hl (k+1) hk
  rw[jL];omega
theorem E1:∀l,l≤20→1≤l→0<jL l l:=by decide+kernel
theorem zV (l:Nat) (h:1≤l):(gx l).getLast?=some ((jL l l:Nat):Int):=by
 obtain⟨k,rfl⟩:∃k,l=k+1:=⟨l-1,by omega⟩
 simp[gx,List.range_succ]
def Kr (seed id:Int):Int:=IntKind.wrap .u64 (IntKind.wrap .u32 ((BitVec.ofInt (IntKind.bits .u32) seed^^^(BitVec.ofInt (IntKind.bits .u32) (IntKind.wrap .u32 ((IntKind.wrap .u32 id)*(2654435761:Int))))).toNat:Nat))
def Er (s:Int) (n:Nat):Nat:=Jd (gx n) (jk s (jL n n))
theorem ta (s:Int) (n:Nat) (h1:1≤n) (h2:n≤20):Er s n≤n:=by
 unfold Er Jd
 have hs:=E1 n h2 h1
 have hs2:=xr n h2 n h2
 have hb:=sX s (jL n n) (by omega) (by omega)
 have:=List.findIdx_lt_length_of_exists (p:=fun y=>decide (y>jk s (jL n n))) (xs:=gx n) ⟨_,List.mem_of_getLast? (zV n h1),by simpa using hb.2⟩
 rw[iS]at this
 omega
def cv (id:Int):Bool:=decide (0≤id)&&decide (id≤65535)
def iT (n:Nat) (seed id:Int):List Int:=zT (CX (CX (Kr seed id))) n (Er (CX (Kr seed id)) n)
theorem vx {n:Nat} (h1:1≤n) (h2:n≤20) {seed id x:Int} (hx:x∈iT n seed id):0≤x∧x<n:=Mj (ta _ n h1 h2) hx
theorem C0 {n:Nat} (h1:1≤n) (h2:n≤20) (seed id:Int):(iT n seed id).length≤n:=by
 rw[iT,Mk _ _ _ (ta _ n h1 h2)];exact ta _ n h1 h2
def qu (n:Nat) (l:List Int):List UInt8:=l.foldl (fun r i=>r.set i.toNat 1) (List.replicate n 0)
theorem yS (n:Nat) (l:List Int):(qu n l).length=n:=by
 have:∀(l:List Int) (r:List UInt8),(l.foldl (fun r i=>r.set i.toNat 1) r).length=r.length:=by
  intro l
  induction l with
  |nil=>intro r;rfl
  |cons a t ih=>intro r;rw[List.foldl_cons,ih];simp
 rw[qu,this];simp
def B0 (n:Nat) (seed id:Int):List UInt8:=qu n (iT n seed id)
theorem Ml (n:Nat) (seed id:Int):(B0 n seed id).length=n:=yS _ _
def jM (K H h:Nat):List UInt8:=(List.range K).map (fun j=>Gf.pw ((h+1)*(j+1)%255))++(List.range H).map fun i=>if i=h then 1 else 0
end Wl
namespace Wl
def cX (K H:Nat):List (List UInt8):=(List.range H).map (jM K H)
theorem E2 (K H h:Nat):(jM K H h).length=K+H:=by simp[jM]
def gy (p:Int×Int×Int) (seed:Int) (ids:List Int):List (List UInt8):=
 if bU p then cX p.1.toNat p.2.1.toNat++(ids.filter cv).map (B0 (dc p).toNat seed)else[]
theorem ph {α:Type} {f:α→Bool} {l:List α} {k:Nat} (hk:k<l.length):(l.take (k+1)).filter f=if f l[k]then(l.take k).filter f++[l[k]]else(l.take k).filter f:=by
 rw[List.take_succ_eq_append_getElem hk,List.filter_append]
 by_cases h:f l[k]=true<;>simp[h]
end Wl
namespace Wl
abbrev Row:=List UInt8
abbrev bz:=List Row
def scaleB (c:UInt8) (l:Row):Row:=l.map (Gf.mul c)
def dA (c:UInt8) (a to:Row):Row:=List.zipWith (fun x y=>y^^^Gf.mul c x) a to
def bp (r:Row) (bs:Nat):UInt8:=r.getD bs 0
def aT (m:bz) (i:Nat):Row:=m.getD i []
def fO (m:bz) (top bs:Nat):Option Nat:=(List.range m.length).find? fun i=>decide (top≤i)&&(bp (aT m i) bs !=0)
def ga (m:bz) (i j:Nat):bz:=(m.set i (aT m j)).set j (aT m i)
def dt (top bs:Nat) (m:bz) (k:Nat):bz:=m.mapIdx fun i r=>if i<k∧i≠top then dA (bp r bs) (aT m top) r else r
def gC (top bs:Nat) (m:bz):bz:=m.set top (scaleB (Gf.inv (bp (aT m top) bs)) (aT m top))
def gb (s:Nat×bz) (bs:Nat):Nat×bz:=
 match fO s.2 s.1 bs with
 |none=>s
 |some i=>(s.1+1,dt s.1 bs (gC s.1 bs (ga s.2 s.1 i)) s.2.length)
def bB (m:bz):Nat→Nat×bz
 |0=>(0,m)
 |c+1=>gb (bB m c) c
def gz (m:bz):Nat:=(aT m 0).length
def eZ (m:bz):Nat:=(bB m (gz m)).1
def bm (n:Nat) (m:bz):Prop:=∀r∈m,r.length=n
theorem qv (c:UInt8) (l:Row):(scaleB c l).length=l.length:=by simp[scaleB]
theorem bN {c:UInt8} {a t:Row} (h:a.length=t.length):(dA c a t).length=t.length:=by simp[dA,h]
theorem dm {m:bz} {i:Nat} (h:i<m.length):aT m i=m[i]:=by rw[aT,List.getD_eq_getElem?_getD,List.getElem?_eq_getElem h];rfl
theorem cN {n:Nat} {m:bz} (h:bm n m) {i:Nat} (hi:i<m.length):(aT m i).length=n:=by rw[dm hi];exact h _ (List.getElem_mem hi)
theorem yT {n:Nat} {m:bz} (h:bm n m) {i:Nat} {r:Row} (hr:r.length=n):bm n (m.set i r):=fun x hx=>by
 rcases List.mem_or_eq_of_mem_set hx with h1|h1
 ·exact h x h1
 ·rw[h1];exact hr
theorem Je {P:Nat→Bool} {n:Nat} (h:∀j,j<n→P j=false):(List.range n).find? P=none:=by
 rw[List.find?_eq_none]
 intro x hx
 rw[List.mem_range]at hx
 simp[h x hx]
theorem Jf {P:Nat→Bool} {n k:Nat} (hk:k<n) (h:∀j,j<k→P j=false) (hp:P k=true):(List.range n).find? P=some k:=by
 rw[List.find?_eq_some_iff_append]
 refine⟨hp,List.range k,List.range' (k+1) (n-k-1),?_,fun a ha=>?_⟩
 ·rw[List.range_eq_range',List.range_eq_range']
  have e1:n=k+(n-k):=by omega
  have e2:n-k=(n-k-1)+1:=by omega
  conv=>lhs;rw[e1,←List.range'_append_1 (s:=0) (m:=k) (n:=n-k)]
  rw[Nat.zero_add]
  conv=>lhs;rw[e2,List.range'_succ]
 ·rw[List.mem_range]at ha
  simp[h a ha]
theorem nd {m:bz} {top bs i:Nat} (h:fO m top bs=some i):top≤i∧i<m.length∧bp (aT m i) bs≠0:=by
 have h1:=List.find?_some h
 have h2:=List.mem_of_find?_eq_some h
 simp at h1 h2
 exact⟨h1.1,h2,h1.2⟩
theorem GX {m:bz} {top bs:Nat} (h:fO m top bs=none):∀i,top≤i→i<m.length→bp (aT m i) bs=0:=fun i h1 h2=>by
 have:=List.find?_eq_none.1 h i (List.mem_range.2 h2)
 simpa[h1]using this
theorem iP (m:bz) (i j:Nat):(ga m i j).length=m.length:=by simp[ga]
theorem vy {n:Nat} {m:bz} (h:bm n m) {i j:Nat} (hi:i<m.length) (hj:j<m.length):bm n (ga m i j):=yT (yT h (cN h hj)) (cN h hi)
theorem kM (t c:Nat) (m:bz):(gC t c m).length=m.length:=by simp[gC]
theorem qw {n:Nat} {m:bz} (h:bm n m) {t c:Nat} (ht:t<m.length):bm n (gC t c m):=yT h (by rw[qv];exact cN h ht)
theorem kN (t c:Nat) (m:bz) (k:Nat):(dt t c m k).length=m.length:=by simp[dt]
theorem qx {n:Nat} {m:bz} (h:bm n m) {t c k:Nat} (ht:t<m.length):bm n (dt t c m k):=fun x hx=>by
 obtain⟨i,hi,rfl⟩:=List.mem_mapIdx.1 hx
 have hl:=h _ (List.getElem_mem hi)
 split
 ·rw[bN (by rw[cN h ht,hl])];exact hl
 ·exact hl
theorem Ks (t c:Nat) (m:bz):dt t c m 0=m:=by
 apply List.ext_getElem?
 intro i
 simp[dt,List.getElem?_mapIdx]
theorem mE {t c k:Nat} {m:bz} {i:Nat} (hi:i<m.length):aT (dt t c m k) i=if i<k∧i≠t then dA (bp (aT m i) c) (aT m t) (aT m i)else aT m i:=by
 rw[dm (by rw[kN];exact hi),dm hi];simp[dt]
theorem Kt {t c k:Nat} {m:bz} (hk:k<m.length) (hkt:k≠t):dt t c m (k+1)=(dt t c m k).set k (dA (bp (aT m k) c) (aT m t) (aT m k)):=by
 apply List.ext_getElem?
 intro i
 simp only[dt,List.getElem?_set,List.getElem?_mapIdx,List.length_mapIdx]
 by_cases hik:k=i
 ·subst hik
  simp only[if_true,hk,List.getElem?_eq_getElem hk,Option.map_some]
  rw[if_pos ⟨by omega,hkt⟩,dm hk]
 ·rw[if_neg hik]
  congr 1
  funext r
  by_cases h:i<k∧i≠t
  ·rw[if_pos h,if_pos ⟨by omega,h.2⟩]
  ·rw[if_neg h,if_neg (fun hh=>h ⟨by omega,hh.2⟩)]
theorem Ku {t c:Nat} {m:bz}:dt t c m (t+1)=dt t c m t:=by
 apply List.ext_getElem?
 intro i
 simp only[dt,List.getElem?_mapIdx]
 congr 1
 funext r
 by_cases h:i<t∧i≠t
 ·rw[if_pos h,if_pos ⟨by omega,h.2⟩]
 ·rw[if_neg h,if_neg (fun hh=>h ⟨by omega,hh.2⟩)]
theorem Kv {n:Nat} {s:Nat×bz} (h:bm n s.2) (bs:Nat):bm n (gb s bs).2∧(gb s bs).2.length=s.2.length:=by
 unfold gb
 cases hb:fO s.2 s.1 bs with
 |none=>exact⟨h,rfl⟩
 |some i=>
  have hh:=nd hb
  dsimp only
  refine⟨qx (qw (vy h (by omega) hh.2.1) (by rw[iP];omega)) (by rw[kM,iP];omega),by rw[kN,kM,iP]⟩
theorem ia {n:Nat} {m:bz} (h:bm n m):∀c,bm n (bB m c).2∧(bB m c).2.length=m.length
 |0=>⟨h,rfl⟩
 |c+1=>by
  have:=ia h c
  have h2:=Kv this.1 c
  rw[bB]
  exact⟨h2.1,by rw[h2.2,this.2]⟩
theorem Mm {s:Nat×bz} (h:s.1≤s.2.length) (bs:Nat):(gb s bs).1≤(gb s bs).2.length:=by
 unfold gb
 cases hb:fO s.2 s.1 bs with
 |none=>exact h
 |some i=>
  have hh:=nd hb
  dsimp only
  rw[kN,kM,iP];omega
theorem tc (m:bz):∀c,(bB m c).1≤(bB m c).2.length
 |0=>by simp[bB]
 |c+1=>Mm (tc m c) c
end Wl
namespace Go.Vc
open Go
section
variable {C:Ctx} {t t2 ty e k:Nat} {z:List Value} {by_:Nat} {α:Type} {h h0:Heap} {p B:au} {s v:Sl} {f:α→List Value} {l l2:List α} {As:List HP}
theorem Own.E3 (hC:C.Ok) (he:bM C.torD t e k z by_) (hw:∀x,(f x).length=k) (ho:Own h e s k f l) (hv:Seq h p v k f l2) (hone:∀x,∀c∈f x,c.oneCell'=true) (j:Nat) (hj:j≤l.length) {pt:Option Addr} {ln cp:Nat} (hpt:pt=if s.cap=j then s.ptr else s.ptr.map (·.add (j*k))) (hln:ln=s.len-j) {K:Int→Heap→Prop}
  (hk:∀n h',Own h' e s k f (l.take j++(l2.take (l.length-j)++l.drop (j+l2.length)))→aH (fun b=>¬s.on b) h h'→K n h'):
  az C.P (Builtin.copy_ #[t,t2] ty #[.slice pt ln cp,.slice v.ptr v.len v.cap]) (.one (.sc (.int .i64))) h K:=by
 unfold az Builtin.copy_
 simp only[List.getElem?_toArray,List.getElem?_cons_zero,List.getElem?_cons_succ]
 refine ae.bind (ae.always (aw (he.under hC)) ?_)
 refine ae.bind (ae.pure' ?_)
 refine ae.bind (ae.always (he.size hC) ?_)
 have hl1:=ho.len;have hl2:=hv.len
 have hcap:=ho.cap
 obtain⟨m,hm⟩:∃m,m=Nat.min v.len ln:=⟨_,rfl⟩
 rw[←hm]
 have hm1:m≤l2.length:=by rw[hm,←hl2];exact Nat.min_le_left _ _
 have hm2:m≤l.length-j:=by rw[hm,←hl1,hln];exact Nat.min_le_right _ _
 have hm3:m=min l2.length (l.length-j):=by rw[hm,hln,hl1,hl2]
 have hv':=hv.take m hm1
 have e0:l2.take (l.length-j)++l.drop (j+l2.length)=l2.take m++l.drop (j+m):=by
  rcases Nat.le_total l2.length (l.length-j)with hh|hh
  ·rw[List.take_of_length_le hh,show m=l2.length by omega,List.take_length]
  ·rw[show m=l.length-j by omega,List.drop_of_length_le (show l.length≤j+l2.length by omega),List.drop_of_length_le (by omega)]
 rw[e0]at hk
 have efc:Builtin.firstCells k m (.slice v.ptr v.len v.cap)=Builtin.firstCells k m (.slice v.ptr m v.cap):=by cases v.ptr<;>rfl
 rw[efc]
 refine ae.bind (eM (v:=⟨v.ptr,m,v.cap⟩) hw hv' ?_)
 have triv:m=0→l.take j++(l2.take m++l.drop (j+m))=l:=fun e=>by rw[e];simp
 rcases ho.head with⟨h1,h2,h3⟩|⟨b,rest,h1,h2,h3,h4⟩
 ·have hp0:pt=none:=by rw[hpt,h1];split<;>rfl
  rw[hp0]
  subst h3
  have:m=0:=by simp at hm2;exact hm2
  refine ae.pure' ⟨_,rfl,hk _ h ?_ (aH.refl _ _)⟩
  rw[triv this];exact ho
 ·by_cases hcj:s.cap=j
  ·have hp0:pt=some ⟨b,0,none⟩:=by rw[hpt,if_pos hcj,h1]
   rw[hp0]
   have hm0:m=0:=by omega
   refine ae.bind ?_
   rw[hm0]
   simp only[List.take_zero,List.flatMap_nil]
   exact ae.pure' (ae.pure' ⟨_,rfl,hk _ h (by rw[triv hm0];exact ho) (aH.refl _ _)⟩)
  ·have hp0:pt=some ⟨b,0+j*k,none⟩:=by rw[hpt,if_neg hcj,h1];simp only[Option.map_some];rw[add_eq]
   rw[hp0]
   refine ae.bind ?_
   have esp:l.flatMap f++rest=(l.take j).flatMap f++((l.drop j).take m).flatMap f++((l.drop (j+m)).flatMap f++rest):=by
    rw[←List.append_assoc,←List.flatMap_append,←List.flatMap_append,←List.drop_drop,List.append_assoc (List.take j l),List.take_append_drop,List.take_append_drop]
   rw[esp]at h2
   refine cO (e:=e) (pre:=(l.take j).flatMap f) (old:=((l.drop j).take m).flatMap f) (post:=(l.drop (j+m)).flatMap f++rest) h2 (by rw[cC hw,cC hw,List.length_take,List.length_take,List.length_drop];congr 1;omega) (by rw[cC hw,List.length_take];rw[Nat.min_eq_left hj];omega) ?_ ?_
   ·intro c hc
    obtain⟨x,_,hxc⟩:=List.mem_flatMap.1 hc
    exact hone x c hxc
   ·refine ae.pure' ⟨_,rfl,hk _ _ ⟨by rw[hl1,List.length_append,List.length_append,List.length_take,List.length_take,List.length_drop];omega,.inr ⟨b,rest,h1,?_,h3,h4⟩⟩ (aH.eX h2 (fun hn=>hn ⟨0,h1⟩))⟩
    rw[eJ h2,if_pos rfl,List.flatMap_append,List.flatMap_append];simp[List.append_assoc]
theorem aa.E3 (hC:C.Ok) (H:aa B h0 h As) (i:Nat) (hi:As[i]?=some (an e s k f l)) (he:bM C.torD t e k z by_) (hw:∀x,(f x).length=k) (hv:Seq h p v k f l2) (hone:∀x,∀c∈f x,c.oneCell'=true) (j:Nat) (hj:j≤l.length) {pt:Option Addr} {ln cp:Nat} (hpt:pt=if s.cap=j then s.ptr else s.ptr.map (·.add (j*k))) (hln:ln=s.len-j) {K:Int→Heap→Prop}
  (hk:∀n h',aa B h0 h' (As.set i (an e s k f (l.take j++(l2.take (l.length-j)++l.drop (j+l2.length)))))→K n h'):
  az C.P (Builtin.copy_ #[t,t2] ty #[.slice pt ln cp,.slice v.ptr v.len v.cap]) (.one (.sc (.int .i64))) h K:=
 (H.own i hi).E3 hC he hw hv hone j hj hpt hln fun n h' x y=>hk n h' (H.js i hi y x)
end
end Go.Vc
namespace Wl
open Go
def b8 (n:Int):UInt8:=UInt8.ofNat (n%256).toNat
theorem cZ (n:Int):IntKind.wrap .u8 n=((b8 n).toNat:Int):=by
 have h0:=Int.emod_nonneg n (show(256:Int)≠0 by decide)
 have h1:=Int.emod_lt_of_pos n (show(0:Int)<256 by decide)
 have e:((b8 n).toNat:Int)=n%256:=by
  unfold b8
  rw[UInt8.toNat_ofNat']
  omega
 rw[e]
 unfold IntKind.wrap
 simp[IntKind.bits,IntKind.signed]
abbrev nr:=BitVec 32
def zW (s:nr):nr:=if s&&&1#32=1#32 then(s>>>1)^^^3988292384#32 else s>>>1
def rJ:Nat→nr→nr
 |0,s=>s
 |n+1,s=>zW (rJ n s)
def IB (s:nr) (x:UInt8):nr:=rJ 8 (s^^^BitVec.ofNat 32 x.toNat)
def oC (l:List UInt8):nr:=l.foldl IB 4294967295#32
def rK (l:List UInt8):nr:=4294967295#32^^^oC l
theorem Jg (l:List UInt8) (x:UInt8):oC (l++[x])=IB (oC l) x:=by unfold oC;rw[List.foldl_append];rfl
theorem E4 (s:nr):IntKind.wrap .u32 ((s.toNat:Nat):Int)=(s.toNat:Int):=by
 have:=s.isLt
 unfold IntKind.wrap
 simp[IntKind.bits,IntKind.signed]
 omega
theorem Jh (a b:nr):IntKind.wrap .u32 ((BitVec.ofInt (IntKind.bits .u32) (a.toNat:Int)^^^BitVec.ofInt (IntKind.bits .u32) (b.toNat:Int)).toNat:Nat)=((a^^^b).toNat:Int):=by
 show IntKind.wrap .u32 (((BitVec.ofInt 32 (a.toNat:Int)^^^BitVec.ofInt 32 (b.toNat:Int):BitVec 32).toNat:Nat):Int)=_
 rw[BitVec.ofInt_natCast,BitVec.ofInt_natCast,BitVec.ofNat_toNat,BitVec.ofNat_toNat,BitVec.setWidth_eq,BitVec.setWidth_eq,E4]
theorem PD (a b:nr):IntKind.wrap .u32 ((BitVec.ofInt (IntKind.bits .u32) (a.toNat:Int)&&&BitVec.ofInt (IntKind.bits .u32) (b.toNat:Int)).toNat:Nat)=((a&&&b).toNat:Int):=by
 show IntKind.wrap .u32 (((BitVec.ofInt 32 (a.toNat:Int)&&&BitVec.ofInt 32 (b.toNat:Int):BitVec 32).toNat:Nat):Int)=_
 rw[BitVec.ofInt_natCast,BitVec.ofInt_natCast,BitVec.ofNat_toNat,BitVec.ofNat_toNat,BitVec.setWidth_eq,BitVec.setWidth_eq,E4]
theorem Kw (n:Int):IntKind.wrap .u32 n=((BitVec.ofInt 32 n).toNat:Int):=by
 unfold IntKind.wrap
 simp[IntKind.bits,IntKind.signed,BitVec.toNat_ofInt]
 omega
theorem NX (s:nr):Int.fdiv (s.toNat:Int) (2^min (1:Int).toNat (IntKind.bits .u32))=((s>>>1).toNat:Int):=by
 rw[show min (1:Int).toNat (IntKind.bits .u32)=1 from rfl,Int.fdiv_eq_ediv_of_nonneg _ (by decide),BitVec.toNat_ushiftRight,Nat.shiftRight_eq_div_pow]
 simp
theorem IC (s:nr):((s&&&1#32).toNat:Int)=1↔s&&&1#32=1#32:=by
 constructor
 ·intro h
  apply BitVec.eq_of_toNat_eq
  have:(1#32:nr).toNat=1:=rfl
  omega
 ·intro h;rw[h];rfl
def kO (s:nr):List UInt8:=(List.range 4).map fun i=>b8 (Int.fdiv (s.toNat:Int) (2^(8*i)))
theorem E5 (s:nr):(kO s).length=4:=by simp[kO]
def cU (kind:Int) (body:List UInt8):List UInt8:=[87,115,1,b8 kind]++body++List.replicate (55-body.length) 0
def dD (kind:Int) (body:List UInt8):List UInt8:=
 if 1≤kind∧kind≤255∧body.length≤55 then cU kind body++kO (rK (cU kind body))++[165]else[]
theorem vz {kind:Int} {body:List UInt8} (h:body.length≤55):(cU kind body).length=59:=by simp[cU];omega
theorem kA {kind:Int} {body:List UInt8} (h1:1≤kind) (h2:kind≤255) (h3:body.length≤55):(dD kind body).length=64:=by
 unfold dD;rw[if_pos ⟨h1,h2,h3⟩];simp[vz h3,E5]
end Wl
namespace Go.Vc
open Go
def fS (s:ByteArray):List UInt8:=s.data.toList
theorem td (s:ByteArray):(fS s).length=s.size:=rfl
def PT (n:Nat):Obj→Obj
 | .cells c elem (lo,hi)=>.cells c elem (if lo==hi then(n,n+1)else(min lo n,max hi (n+1)))
 |o=>o
theorem ae.Kx {P:Program} {h:Heap} {b n:Nat} {c:Array Value} {e:TypeId} {K:Unit→Heap→Prop} (hb:h[b]?=some (.cells c e (0,0))) (hn:n=c.size) (hk:∀h',(∀x,x≠b→h'[x]?=h[x]?)→h'.size=h.size→(∃f,h'[b]?=some (.cells c e f))→K () h'):
  ae P (freeze {block:=b,off:=n} 1) h K:=fun w hw=>by
 refine⟨(),w.freeze {block:=b,off:=n} 1,run_freeze P w _ _,⟨rfl,rfl,rfl,Nat.le_refl _⟩,?_⟩
 subst hw
 have hg:(w.freeze {block:=b,off:=n} 1).heap=w.heap.modify b (PT n):=rfl
 refine hk _ (fun x hx=>?_) ?_ ?_
 ·rw[hg,Array.getElem?_modify,if_neg (fun e=>hx e.symm)]
 ·rw[hg];simp
 ·rw[hg,Array.getElem?_modify,if_pos rfl,hb]
  exact⟨_,rfl⟩
section
variable {C:Ctx} {B:au} {h h0:Heap} {As:List HP} {t e ts:Nat}
theorem NY (hC:C.Ok) (hs:∃i,C.T.get ts=some i∧i.bV=.str) (ht:∃i,C.T.get t=some i∧i.bV=.slice e) (he:∃i,C.T.get e=some i∧i.bV=.int .u8) (s:ByteArray) {K:Sl→Heap→Prop} (hk:∀r h',Sp h h' [qY r 1 aG (fS s)]→K r h'):
  az C.P (convert ts t (.string s)) (.one (.sc .slc)) h K:=by
 obtain⟨i1,a1,b1⟩:=hs
 obtain⟨i2,a2,b2⟩:=ht
 obtain⟨i3,a3,b3⟩:=he
 have u1:C.P.underlying ts=some .string:=by have:=hC.bV a1;rw[b1]at this;exact oO this
 have u2:C.P.underlying t=some (.slice e):=by have:=hC.bV a2;rw[b2]at this;exact gQ this
 have u3:C.P.underlying e=some (.int .u8):=by have:=hC.bV a3;rw[b3]at this;exact xg this
 unfold az convert
 refine ae.bind (ae.always (aw u1) ?_)
 refine ae.bind (ae.always (aw u2) ?_)
 refine ae.bind (ae.always (aw u3) ?_)
 unfold Conv.stringToBytes
 refine ae.bind (ae.BO ⟨fun hf=>(by cases hf),fun _ nn=>?_⟩)
 generalize hcc:Question.cut (Question.appendCap s.size 0 e) nn=cc
 have hcc':s.size≤cc:=by rw[←hcc];simp only[Question.cut];omega
 unfold newRow
 refine ae.bind (ae.bind (ae.kS (ae.pure' ?_)))
 unfold markStringish
 obtain⟨cs,hcs⟩:∃cs:Array Value,cs=s.data.map (fun b=>Value.int .u8 b.toNat)++Array.replicate (cc-s.size) (Value.int .u8 0):=⟨_,rfl⟩
 rw[←hcs]
 refine ae.bind (ae.bind (ae.OC ?_))
 have hsh:shapeOf (h.push (.cells cs e)) h.size=some (e,cs.size):=by unfold shapeOf;simp
 dsimp only
 rw[hsh]
 refine ae.Kx (c:=cs) (e:=e) (by simp) rfl fun h' k1 k2 k3=>?_
 refine ae.pure' ⟨⟨some ⟨h.size,0,none⟩,s.size,cc⟩,rfl,hk _ _ ?_⟩
 obtain⟨f,k3⟩:=k3
 refine .one ⟨by rw[k2];simp,fun b hb _=>by rw[k1 b (by omega),Array.getElem?_push,if_neg (by omega)]⟩ ?_
 refine⟨by rw[td],fun i x hx=>⟨h.size,0,rfl,⟨Nat.le_refl _,by rw[k2];simp⟩,?_,trivial⟩⟩
 rw[add_zero]
 have hi:i<s.data.size:=by have:=(List.getElem?_eq_some_iff.1 hx).1;simpa[fS]using this
 unfold cellOf
 simp only[k3,Nat.mul_one,Nat.zero_add,Option.isSome_none,Bool.false_eq_true,if_false]
 rw[hcs,Array.getElem?_append_left (by simpa using hi),Array.getElem?_map]
 have:s.data[i]?=some x:=by rw[←hx];simp[fS]
 rw[this];rfl
end
section
variable {C:Ctx} {t t2 e k:Nat} {z:List Value} {by_:Nat} {h h0:Heap} {B:au} {As:List HP} {s:Sl} {l:List UInt8}
theorem DE (hC:C.Ok) (he:bM C.torD t e 1 z by_) (h2:∃i,C.T.get t2=some i∧i.bV=.str) (hz:z.length=1) (hby:0<by_∧by_≤128)
  (ho:Own h e s 1 aG l) (x:ByteArray) (hsz:l.length+x.size≤2^32) {ty:Nat} {K:Sl→Heap→Prop}
  (hk:∀s' h',Own h' e s' 1 aG (l++fS x)→aH (fun b=>¬s.on b) h h'→(∀b,s'.on b→s.on b∨h.size≤b)→K s' h'):
  az C.P (Builtin.append_ #[t,t2] ty #[.slice s.ptr s.len s.cap,.string x]) (.one (.sc .slc)) h K:=by
 obtain⟨i2,g1,g2⟩:=h2
 have hu2:C.P.underlying t2=some .string:=by have:=hC.bV g1;rw[g2]at this;exact oO this
 obtain⟨inf,x1,x2,x3,zv,x4,x5⟩:=he.info hC
 have hone:∀y∈(fS x).flatMap aG,y.oneCell'=true:=fun y hy=>by
  obtain⟨b,_,hb⟩:=List.mem_flatMap.1 hy
  exact fV b y hb
 have hcells:((x.extract 0 x.size).data.map fun b=>Value.int .u8 (b.toNat:Int))=((fS x).flatMap aG).toArray:=by
  have e0:x.extract 0 x.size=x:=by
   apply ByteArray.ext
   simp[ByteArray.data_extract]
  rw[e0]
  apply Array.ext'
  simp only[Array.toList_map,fS]
  exact List.map_eq_flatMap
 unfold az Builtin.append_
 simp only[List.getElem?_toArray,List.getElem?_cons_zero,List.getElem?_cons_succ]
 refine ae.bind (ae.always (aw (he.under hC)) ?_)
 refine ae.bind (ae.always (he.size hC) ?_)
 refine ae.bind (ae.always (aw hu2) ?_)
 refine ae.bind (ae.pure' ?_)
 simp only[Bool.false_eq_true,if_false,Bool.not_false,if_true]
 refine ae.bind (ae.pure' ?_)
 have hlen:=ho.len
 have hw:∀y,(aG y).length=1:=fun _=>rfl
 have hflat:=cC hw l
 have hflat2:=cC hw (fS x)
 have hxl:=td x
 have hfc:∀{h:Heap} {K:Array Value→Heap→Prop},K ((fS x).flatMap aG).toArray h→ae C.P (Builtin.firstCells 1 x.size (.string x)) h K:=fun{h K} hK=>by
  unfold Builtin.firstCells
  dsimp only
  rw[hcells]
  exact ae.pure' hK
 by_cases hfit:s.len+x.size≤s.cap
 ·rw[if_pos hfit]
  refine ae.bind (hfc ?_)
  rcases ho.head with⟨p1,p2,p3⟩|⟨b,rest,p1,p2,p3,p4⟩
  ·rw[p1]
   have hx0:fS x=[]:=List.eq_nil_of_length_eq_zero (by omega)
   refine ae.pure' ⟨⟨none,s.len+x.size,s.cap⟩,rfl,hk _ _ ⟨?_,.inl ⟨rfl,p2,by simp[p3,hx0]⟩⟩ (aH.refl _ _) ?_⟩
   ·simp;omega
   ·rintro b' ⟨o,ho'⟩;cases ho'
  ·rw[p1]
   refine ae.bind ?_
   rw[add_eq,Nat.zero_add]
   have hrl:((fS x).flatMap aG).length≤rest.length:=by
    rw[hflat2,p3];omega
   refine cO (e:=e) (pre:=l.flatMap aG) (old:=rest.take ((fS x).flatMap aG).length) (post:=rest.drop ((fS x).flatMap aG).length) ?_ ?_ ?_ ?_ ?_
   ·rw[List.append_assoc,List.take_append_drop];exact p2
   ·rw[List.length_take];exact Nat.min_eq_left hrl
   ·rw[hflat,hlen];omega
   ·intro c hc;exact hone c (by simpa using hc)
   ·refine ae.pure' ⟨⟨some ⟨b,0,none⟩,s.len+x.size,s.cap⟩,rfl,hk _ _ ⟨?_,.inr ⟨b,rest.drop ((fS x).flatMap aG).length,rfl,?_,?_,hfit⟩⟩ ?_ ?_⟩
    ·simp;omega
    ·rw[eJ p2,if_pos rfl];simp
    ·rw[List.length_drop,p3,hflat2]
     show(s.cap-s.len)*1-(fS x).length*1=(s.cap-(s.len+x.size))*1
     omega
    ·exact aH.eX p2 (fun hn=>hn ⟨0,p1⟩)
    ·rintro b' ⟨o,ho'⟩;cases ho';exact .inl ⟨0,p1⟩
 ·rw[if_neg hfit]
  have hseq:Seq h (fun _=>True) s 1 aG l:=ho.seq hw (fun _ _=>trivial)
  have hcap:=ho.cap
  refine ae.bind (ae.always (ct x1) ?_)
  rw[if_neg (fun hh=>by rcases hh.2 with h|h<;>first|exact h|(rw[x3]at h;omega))]
  refine ae.bind (ae.always (ct x1) ?_)
  have hnx:=Iv (s.len+x.size) s.cap (by omega)
  rw[if_neg (by
   have:Builtin.nextslicecap (s.len+x.size) s.cap*inf.bytes≤(16*2^32+16*768)*128:=Nat.mul_le_mul (by omega) (by rw[x3];exact hby.2)
   omega)]
  refine ae.bind (ae.BO ⟨fun hf=>(by cases hf),fun _ nn=>?_⟩)
  refine ae.bind (ae.always (ct x1) ?_)
  refine ae.bind (ae.yF ?_)
  refine ae.bind (eM hw hseq ?_)
  refine ae.bind (hfc ?_)
  have hzv:ar C.P (zeroValue e) zv:=(ct x1).bind (by rw[x4];exact .pure)
  refine ae.bind (ae.always hzv ?_)
  rw[x5,vt]
  unfold newRow
  refine ae.bind (ae.bind (ae.kS (ae.pure' (ae.pure' ?_))))
  generalize hcc:Question.cut (Question.appendCap (s.len+x.size) s.cap e) nn=cc
  have hcc':s.len+x.size≤cc:=by rw[←hcc];simp only[Question.cut];omega
  refine⟨⟨some ⟨h.size,0,none⟩,s.len+x.size,cc⟩,rfl,hk _ _ ⟨?_,.inr ⟨h.size,fQ z (cc-(s.len+x.size)),rfl,?_,?_,hcc'⟩⟩ (aH.push _ _ _) ?_⟩
  ·simp;omega
  ·simp
  ·rw[kL,hz]
  ·rintro b' ⟨o,ho'⟩;cases ho';exact .inr (Nat.le_refl _)
theorem aa.Ky (hC:C.Ok) (H:aa B h0 h As) (i:Nat) (hi:As[i]?=some (an e s 1 aG l)) (he:bM C.torD t e 1 z by_) (h2:∃i,C.T.get t2=some i∧i.bV=.str) (hz:z.length=1) (hby:0<by_∧by_≤128)
  (x:ByteArray) (hsz:l.length+x.size≤2^32) {ty:Nat} {K:Sl→Heap→Prop} (hk:∀s' h',aa B h0 h' (As.set i (an e s' 1 aG (l++fS x)))→K s' h'):
  az C.P (Builtin.append_ #[t,t2] ty #[.slice s.ptr s.len s.cap,.string x]) (.one (.sc .slc)) h K:=by
 obtain⟨lo,pp,c,zz,a⟩:=H
 have ha:=a i _ hi
 refine DE hC he h2 hz hby ha.1 x hsz fun s' h' ho' hp' hn'=>hk s' h' ?_
 refine aa.xk lo pp zz a (hp'.mono fun b hb hn hc=>hn (ha.2 b hc)) ⟨ho',fun b hb=>⟨ho'.lt hb,?_⟩⟩
 rcases hn' b hb with h1|h1
 ·exact .inl (ha.2 b h1)
 ·exact .inr h1
end
end Go.Vc
namespace Wl
open Go
structure cK where
 name:ByteArray
 object:Int
 length:Int
 tries:List Int
structure aF where
 seq:Int
 next:Int
 p:Int×Int×Int
 extra:Int
 drives:List Int
 aJ:List cK
def PE:cK:=⟨⟨#[]⟩,0,0,[]⟩
def lA (l:List cK) (i:Nat):cK:=l.getD i PE
theorem kP {l:List cK} {i:Nat} (h:i<l.length):lA l i=l[i]:=by unfold lA;rw[List.getD_eq_getElem?_getD,List.getElem?_eq_getElem h];rfl
def dG (n a b:Int):Bool:=decide (a≤n)&&decide (n≤b)
def jN (c:UInt8):Bool:=(decide (97≤c.toNat)&&decide (c.toNat≤122))||(decide (48≤c.toNat)&&decide (c.toNat≤57))||decide (c.toNat=45)
def gS (s:ByteArray):Bool:=s.data.toList.all jN&&(decide (1≤s.size)&&decide (s.size≤12))
def dB (a b:ByteArray):Bool:=Op.bytesLess a.toList b.toList
def gA (l:List Int) (most:Int) (i:Nat):Bool:=dG (l.getD i 0) 0 most&&(decide (i=0)||decide (l.getD (i-1) 0<l.getD i 0))
def lB (l:List Int) (most:Int):Bool:=(List.range l.length).all (gA l most)
def countP (p:Int×Int×Int) (n:Int):Int:=if bU p&&decide (0<n)then(n-1)/(p.1*p.2.2)+1 else 0
def fw (m:aF) (x:cK):Bool:=
 gS x.name&&(dG x.object 0 (m.next-1)&&(dG x.length 0 (m.p.1*m.p.2.2*8)&&(x.tries.all (dG · 0 15)&&decide ((x.tries.length:Int)=countP m.p x.length))))
def lC (m:aF) (i:Nat):Bool:=
 fw m (lA m.aJ i)&&((decide (i=0)||dB (lA m.aJ (i-1)).name (lA m.aJ i).name)&&!(m.aJ.take i).any fun y=>decide (y.object=(lA m.aJ i).object))
def iw (m:aF):Bool:=dG m.seq 1 2147483647&&(dG m.next 0 16777216&&(bU m.p&&dG m.extra 0 16))
def bO (m:aF):Bool:=iw m&&(lB m.drives 63&&(decide (m.aJ.length≤12)&&(List.range m.aJ.length).all (lC m)))
theorem vA {p:Nat→Bool} {n i:Nat} (hi:i<n) (h:p i=false):(List.range n).all p=false:=List.all_eq_false.2 ⟨i,List.mem_range.2 hi,by rw[h];simp⟩
theorem nX {p:Nat→Bool} {n:Nat} (h:∀i,i<n→p i=true):(List.range n).all p=true:=List.all_eq_true.2 fun i hi=>h i (List.mem_range.1 hi)
def cM (n:Int) (k:Nat):List UInt8:=(List.range k).map fun i=>b8 (Int.fdiv n (2^(8*(k-1-i))))
theorem bT (n:Int) (k:Nat):(cM n k).length=k:=by simp[cM]
def gd (x:cK):List UInt8:=b8 x.name.size::(x.name.data.toList++(cM x.object 3++(cM x.length 2++x.tries.map b8)))
def gT (m:aF):List UInt8:=
 if bO m then cM m.seq 4++(cM m.next 4++([b8 m.p.1,b8 m.p.2.1,b8 m.p.2.2,b8 m.extra,b8 m.drives.length]++(m.drives.map b8++(b8 m.aJ.length::m.aJ.flatMap gd))))else[]
def mF (seq number many:Int) (b:List UInt8):List UInt8:=dD 2 (cM seq 4++([b8 number,b8 many,b8 b.length]++b))
def gU (b:List UInt8):Nat:=(b.length+47)/48
def bh (m:aF):List (List UInt8):=(List.range (gU (gT m))).map fun i:Nat=>mF m.seq i (gU (gT m)) (((gT m).drop (48*i)).take 48)
theorem Kz {m:aF} (h:bO m=true):iw m=true:=by unfold bO at h;simp at h;exact h.1
theorem E6 {m:aF} (h:iw m=true):(1≤m.seq∧m.seq≤2147483647)∧(0≤m.next∧m.next≤16777216)∧bU m.p=true∧0≤m.extra∧m.extra≤16:=by
 unfold iw dG at h;simpa[and_assoc]using h
theorem te {m:aF} {c:List UInt8} (h:c∈bh m):c.length=64:=by
 unfold bh at h
 obtain⟨i,_,rfl⟩:=List.mem_map.1 h
 exact kA (by decide) (by decide) (by simp[bT];omega)
end Wl
namespace Wl
open Go
structure db where
 object:Int
 block:Int
 id:Int
 p:Int×Int×Int
 seed:Int
 data:List UInt8
theorem OR (n:Int):((b8 n).toNat:Int)=n%256:=by
 have h0:=Int.emod_nonneg n (show(256:Int)≠0 by decide)
 have h1:=Int.emod_lt_of_pos n (show(0:Int)<256 by decide)
 unfold b8
 rw[UInt8.toNat_ofNat']
 omega
def jO (r:db):Bool:=(dG r.object 0 16777215&&(dG r.block 0 7&&cv r.id))&&(bU r.p&&decide ((r.data.length:Int)=r.p.2.2))
def tf (r:db):List UInt8:=cM r.object 3++(cM r.block 1++(cM r.id 2++([b8 r.p.1,b8 r.p.2.1,b8 r.p.2.2]++(cM r.seed 4++r.data))))
def dV (r:db):List UInt8:=if jO r then dD 1 (tf r)else[]
def du (l:List UInt8):Int:=l.foldl (fun n x=>n*256+x.toNat) 0
def j3 (c:List UInt8):Option (Int×List UInt8):=
 if c.length=64∧dD ((c.getD 3 0).toNat:Int) ((c.drop 4).take 55)=c then some (((c.getD 3 0).toNat:Int),(c.drop 4).take 55)else none
def Es (x:List UInt8):db:=
 ⟨du (x.take 3),du ((x.drop 3).take 1),du ((x.drop 4).take 2),(du ((x.drop 6).take 1),du ((x.drop 7).take 1),du ((x.drop 8).take 1)),du ((x.drop 9).take 4),(x.drop 13).take (du ((x.drop 8).take 1)).toNat⟩
def ft (c:List UInt8):Option db:=
 match j3 c with
 |some (k,x)=>if k=1∧bU (Es x).p=true∧dV (Es x)=c then some (Es x)else none
 |none=>none
theorem jP (r:db):jO r=true↔(0≤r.object∧r.object≤16777215)∧(0≤r.block∧r.block≤7)∧(0≤r.id∧r.id≤65535)∧bU r.p=true∧(r.data.length:Int)=r.p.2.2:=by
 unfold jO dG cv;simp[and_assoc]
theorem qy {r:db} (h:jO r=true):(tf r).length=13+r.data.length∧r.data.length≤24:=by
 obtain⟨_,_,_,h4,h5⟩:=(jP r).1 h
 have:=(cg r.p).1 h4
 refine⟨by unfold tf;simp[bT];omega,by omega⟩
theorem yU {r:db} (h:jO r=true):(dV r).length=64:=by
 have:=qy h
 unfold dV;rw[if_pos h]
 exact kA (by decide) (by decide) (by omega)
theorem KA {k:Int} {body:List UInt8} (h1:1≤k) (h2:k≤255) (h3:body.length≤55):j3 (dD k body)=some (k,body++List.replicate (55-body.length) 0):=by
 obtain⟨x,hx⟩:∃x,x=body++List.replicate (55-body.length) 0:=⟨_,rfl⟩
 have hxl:x.length=55:=by rw[hx];simp;omega
 have e0:dD k body=[87,115,1,b8 k]++(x++(kO (rK (cU k body))++[165])):=by
  unfold dD
  rw[if_pos ⟨h1,h2,h3⟩]
  unfold cU
  rw[hx];simp[List.append_assoc]
 have e1:((dD k body).getD 3 0)=b8 k:=by rw[e0];rfl
 have e2:((dD k body).drop 4).take 55=x:=by
  rw[e0]
  have:([87,115,1,b8 k]++(x++(kO (rK (cU k body))++[165]))).drop 4=x++(kO (rK (cU k body))++[165]):=rfl
  rw[this,List.take_append_of_le_length (by omega),List.take_of_length_le (by omega)]
 have e3:((b8 k).toNat:Int)=k:=by rw[OR];omega
 have e4:cU k x=cU k body:=by
  unfold cU
  rw[hxl,hx];simp[List.append_assoc]
 have e5:dD k x=dD k body:=by
  unfold dD
  rw[if_pos ⟨h1,h2,by omega⟩,if_pos ⟨h1,h2,h3⟩,e4]
 unfold j3
 rw[e1,e2,e3,if_pos ⟨kA h1 h2 h3,e5⟩,hx]
end Wl
namespace Go.Vc
open Go
section
variable {C:Ctx} {h:Heap} {t e ts:Nat}
theorem xW:∀(l:List UInt8) (b:ByteArray),l.foldl ByteArray.push b=⟨(b.data.toList++l).toArray⟩
 |[],b=>by simp
 |x::l,b=>by
  rw[List.foldl_cons,xW l (b.push x)]
  simp[ByteArray.push]
theorem ID (hC:C.Ok) (ht:∃i,C.T.get t=some i∧i.bV=.slice e) (hs:∃i,C.T.get ts=some i∧i.bV=.str) (he:∃i,C.T.get e=some i∧i.bV=.int .u8) {s:Sl} {l:List UInt8} {p:au} (hv:Seq h p s 1 aG l) {K:ByteArray→Heap→Prop} (hk:K ⟨l.toArray⟩ h):
  az C.P (convert t ts (.slice s.ptr s.len s.cap)) (.one (.sc .str)) h K:=by
 obtain⟨i1,a1,b1⟩:=hs
 obtain⟨i2,a2,b2⟩:=ht
 obtain⟨i3,a3,b3⟩:=he
 have u1:C.P.underlying ts=some .string:=by have:=hC.bV a1;rw[b1]at this;exact oO this
 have u2:C.P.underlying t=some (.slice e):=by have:=hC.bV a2;rw[b2]at this;exact gQ this
 have u3:C.P.underlying e=some (.int .u8):=by have:=hC.bV a3;rw[b3]at this;exact xg this
 unfold az convert
 refine ae.bind (ae.always (aw u2) ?_)
 refine ae.bind (ae.always (aw u1) ?_)
 refine ae.bind (ae.always (aw u3) ?_)
 unfold Conv.bytesToString
 have hfc:=eM (P:=C.P) (f:=aG) (k:=1) (K:=fun cs h'=>cs=(l.flatMap aG).toArray∧h'=h) (fun _=>rfl) hv ⟨rfl,rfl⟩
 cases hp:s.ptr with
 |none=>
  have:l=[]:=by
   cases l with
   |nil=>rfl
   |cons x r=>obtain⟨b,o,h1,_⟩:=hv.elem 0 x (by simp);rw[hp]at h1;cases h1
  subst this
  exact ae.pure' ⟨⟨#[]⟩,rfl,hk⟩
 |some a=>
  rw[hp]at hfc
  dsimp only
  have hfc':ae C.P (loadCells a s.len) h fun cs h'=>cs=(l.flatMap aG).toArray∧h'=h:=by
   have:Builtin.firstCells 1 s.len (.slice (some a) s.len s.cap)=loadCells a s.len:=by
    unfold Builtin.firstCells;simp
   rw[←this];exact hfc
  refine ae.bind (hfc'.mono ?_)
  rintro _ _ ⟨rfl,rfl⟩
  have key:∀(l:List UInt8) (b:ByteArray),ar C.P (forIn (m:=Sem) (l.flatMap aG) b fun c r=>match c with
    | .int .u8 n=>do pure (ForInStep.yield (r.push (UInt8.ofNat n.toNat)))
    |_=>do let r←stuck "bytesToString: byte expected";pure r) (l.foldl ByteArray.push b):=fun l=>by
   induction l with
   |nil=>intro b;exact .pure
   |cons x l ih=>
    intro b
    have e1:(x::l).flatMap aG=Value.int .u8 x.toNat::l.flatMap aG:=rfl
    rw[e1,List.forIn_cons]
    have e2:b.push (UInt8.ofNat ((x.toNat:Int)).toNat)=b.push x:=by
     rw[Int.toNat_natCast];congr 1;apply UInt8.toNat_inj.1;simp
    refine ar.bind (v:=ForInStep.yield (b.push x)) (by dsimp only;rw[e2];exact .pure) ?_
    exact ih _
  refine ae.bind (ae.always (v:=l.foldl ByteArray.push ByteArray.empty) ?_ ?_)
  ·rw[List.forIn_toArray]
   exact key l _
  ·refine ae.pure' ⟨_,rfl,?_⟩
   rw[xW]
   exact hk
end
end Go.Vc
namespace Wl
section
variable {α:Type} (le:α→α→Bool)
def fK (a b:α):Bool:=le a b&&le b a
def bJ (l l':List α):Prop:=∀x,l.filter (fK le x)=l'.filter (fK le x)
def Sd (l:List α):Prop:=l.Pairwise fun a b=>le a b=true
structure Ord:Prop where
 trans:∀a b c,le a b=true→le b c=true→le a c=true
 total:∀a b,(le a b||le b a)=true
variable {le}
theorem Ord.vB (o:Ord le) {a b:α} (h:¬le a b=true):le b a=true:=by
 have:=o.total a b
 cases h1:le a b with
 |true=>exact absurd h1 h
 |false=>rw[h1]at this;simpa using this
theorem Ord.refl (o:Ord le) (a:α):le a a=true:=by have:=o.total a a;simpa using this
theorem bJ.refl (l:List α):bJ le l l:=fun _=>rfl
theorem bJ.trans {l1 l2 l3:List α} (h:bJ le l1 l2) (k:bJ le l2 l3):bJ le l1 l3:=fun x=>(h x).trans (k x)
theorem bJ.symm {l1 l2:List α} (h:bJ le l1 l2):bJ le l2 l1:=fun x=>(h x).symm
theorem bJ.app {a b c d:List α} (h:bJ le a b) (k:bJ le c d):bJ le (a++c) (b++d):=fun x=>by
 rw[List.filter_append,List.filter_append,h x,k x]
theorem bJ.mem (o:Ord le) {l l':List α} (h:bJ le l l') {y:α} (hy:y∈l'):y∈l:=by
 have h1:y∈l'.filter (fK le y):=List.mem_filter.2 ⟨hy,by unfold fK;rw[o.refl];rfl⟩
 rw[←h y]at h1
 exact(List.mem_filter.1 h1).1
theorem bJ.KB (o:Ord le) {u v:List α} (h:∀x∈u,∀y∈v,¬le x y=true):bJ le (u++v) (v++u):=fun z=>by
 rw[List.filter_append,List.filter_append]
 by_cases hu:u.filter (fK le z)=[]
 ·rw[hu];simp
 ·by_cases hv:v.filter (fK le z)=[]
  ·rw[hv];simp
  ·exfalso
   obtain⟨x,hx⟩:=List.exists_mem_of_ne_nil _ hu
   obtain⟨y,hy⟩:=List.exists_mem_of_ne_nil _ hv
   obtain⟨hx1,hx2⟩:=List.mem_filter.1 hx
   obtain⟨hy1,hy2⟩:=List.mem_filter.1 hy
   unfold fK at hx2 hy2
   simp only[Bool.and_eq_true]at hx2 hy2
   exact h x hx1 y hy1 (o.trans _ _ _ hx2.2 hy2.1)
theorem bJ.E7 (o:Ord le) {l:List α} (h:bJ le [] l):l=[]:=by
 cases l with
 |nil=>rfl
 |cons a l=>exact absurd (bJ.mem o h (List.mem_cons_self ..)) (by simp)
theorem C1 (o:Ord le):∀(l l':List α),Sd le l→Sd le l'→bJ le l l'→l=l'
 |[],l',_,_,h=>(bJ.E7 o h).symm
 |a::l,[],_,_,h=>absurd (bJ.E7 o h.symm) (by simp)
 |a::l,b::l',s,s',h=>by
  have hab:a=b:=by
   have h1:le a b=true:=by
    have:=bJ.mem o h (y:=b) (List.mem_cons_self ..)
    rcases List.mem_cons.1 this with e|e
    ·rw[e];exact o.refl _
    ·exact(List.pairwise_cons.1 s).1 _ e
   have h2:le b a=true:=by
    have:=bJ.mem o h.symm (y:=a) (List.mem_cons_self ..)
    rcases List.mem_cons.1 this with e|e
    ·rw[e];exact o.refl _
    ·exact(List.pairwise_cons.1 s').1 _ e
   have h3:=h a
   have e1:fK le a a=true:=by unfold fK;rw[o.refl];rfl
   have e2:fK le a b=true:=by unfold fK;rw[h1,h2];rfl
   rw[List.filter_cons_of_pos e1,List.filter_cons_of_pos e2]at h3
   injection h3
  subst hab
  rw[C1 o l l' (List.pairwise_cons.1 s).2 (List.pairwise_cons.1 s').2 fun x=>by
   have h3:=h x
   rw[List.filter_cons,List.filter_cons]at h3
   split at h3
   ·injection h3
   ·exact h3]
theorem vC (o:Ord le) (l:List α):Sd le (l.mergeSort le)∧bJ le l (l.mergeSort le):=by
 refine⟨List.pairwise_mergeSort o.trans o.total l,fun x=>?_⟩
 have hp:(l.filter (fK le x)).Pairwise fun a b=>le a b=true:=by
  rw[List.pairwise_filter]
  refine List.Pairwise.imp ?_ (List.pairwise_of_forall (l:=l) (R:=fun _ _=>True) fun _ _=>trivial)
  intro a b _ ha hb
  unfold fK at ha hb
  simp only[Bool.and_eq_true]at ha hb
  exact o.trans _ _ _ ha.2 hb.1
 have hs:=List.sublist_mergeSort o.trans o.total hp List.filter_sublist
 have hs2:=hs.filter (fK le x)
 rw[List.filter_filter]at hs2
 simp only[Bool.and_self]at hs2
 exact hs2.eq_of_length ((List.mergeSort_perm l le).symm.filter _).length_eq
theorem Nw (o:Ord le) {l l':List α} (s:Sd le l') (h:bJ le l l'):l'=l.mergeSort le:=by
 obtain⟨h1,h2⟩:=vC o l
 exact C1 o _ _ s h1 (h.symm.trans h2)
theorem Sd.app (o:Ord le) {u v:List α} (hu:Sd le u) (hv:Sd le v) (h:∀x∈u,∀y∈v,le x y=true):Sd le (u++v):=List.pairwise_append.2 ⟨hu,hv,h⟩
theorem Sd.left {u v:List α} (h:Sd le (u++v)):Sd le u:=(List.pairwise_append.1 h).1
theorem Sd.right {u v:List α} (h:Sd le (u++v)):Sd le v:=(List.pairwise_append.1 h).2.1
theorem Sd.xt {u v:List α} (h:Sd le (u++v)):∀x∈u,∀y∈v,le x y=true:=(List.pairwise_append.1 h).2.2
theorem Sd.at_ (o:Ord le) {l:List α} (h:Sd le l) {i j:Nat} (hij:i≤j) (hj:j<l.length):le (l[i]'(by omega)) l[j]=true:=by
 by_cases e:i=j
 ·subst e;exact o.refl _
 ·exact List.pairwise_iff_getElem.1 h i j (by omega) hj (by omega)
theorem KC (o:Ord le) {l1 l2 r1 r2 m1 m2:List α} (hL:Sd le (l1++l2)) (hR:Sd le (r1++r2)) (h12:∀x∈l1,∀y∈r2,le x y=true) (h21:∀x∈l2,∀y∈r1,¬le x y=true)
  (e1:bJ le (l1++r1) m1) (s1:Sd le m1) (e2:bJ le (l2++r2) m2) (s2:Sd le m2):Sd le (m1++m2)∧bJ le ((l1++l2)++(r1++r2)) (m1++m2):=by
 constructor
 ·refine Sd.app o s1 s2 fun x hx y hy=>?_
  rcases List.mem_append.1 (bJ.mem o e1 hx)with hx|hx<;>rcases List.mem_append.1 (bJ.mem o e2 hy)with hy|hy
  ·exact hL.xt x hx y hy
  ·exact h12 x hx y hy
  ·exact o.vB (h21 y hy x hx)
  ·exact hR.xt x hx y hy
 ·have h1:bJ le ((l1++l2)++(r1++r2)) ((l1++r1)++(l2++r2)):=by
   rw[show(l1++l2)++(r1++r2)=l1++((l2++r1)++r2)by simp,show(l1++r1)++(l2++r2)=l1++((r1++l2)++r2)by simp]
   exact(bJ.refl _).app ((bJ.KB o h21).app (bJ.refl _))
  exact h1.trans (e1.app e2)
end
end Wl
namespace Wl
section
variable {α:Type} {le:α→α→Bool}
theorem oR (o:Ord le):∀{l l':List α},bJ le l l'→l.length=l'.length
 |[],l',h=>by rw[bJ.E7 o h]
 |a::l,l',h=>by
  have hm:=bJ.mem o h.symm (y:=a) (List.mem_cons_self ..)
  obtain⟨u,v,hl'⟩:=List.append_of_mem hm
  have key:∃(u:List α) (b:α) (v:List α),l'=u++b::v∧(∀x∈u,fK le a x=false)∧fK le a b=true:=by
   have hne:l'.filter (fK le a)≠[]:=fun hh=>by
    have:a∈l'.filter (fK le a):=List.mem_filter.2 ⟨hm,by unfold fK;rw[o.refl];rfl⟩
    rw[hh]at this;cases this
   clear hl' u v hm h
   induction l' with
   |nil=>exact absurd rfl hne
   |cons c l' ih=>
    by_cases hc:fK le a c=true
    ·exact⟨[],c,l',rfl,by simp,hc⟩
    ·rw[List.filter_cons_of_neg hc]at hne
     obtain⟨u,b,v,e,f,g⟩:=ih hne
     refine⟨c::u,b,v,by rw[e];rfl,fun x hx=>?_,g⟩
     rcases List.mem_cons.1 hx with rfl|hx
     ·simpa using hc
     ·exact f x hx
  obtain⟨u,b,v,rfl,hu,hb⟩:=key
  have e1:fK le a a=true:=by unfold fK;rw[o.refl];rfl
  have hfa:=h a
  have hun:u.filter (fK le a)=[]:=List.filter_eq_nil_iff.2 fun x hx=>by rw[hu x hx];simp
  rw[List.filter_cons_of_pos e1,List.filter_append,hun,List.nil_append,List.filter_cons_of_pos hb]at hfa
  have hab:a=b:=by injection hfa
  subst hab
  have h2:bJ le l (u++v):=fun x=>by
   have hx:=h x
   rw[List.filter_cons,List.filter_append,List.filter_cons]at hx
   rw[List.filter_append]
   by_cases hxa:fK le x a=true
   ·rw[if_pos hxa,if_pos hxa]at hx
    have hux:u.filter (fK le x)=[]:=List.filter_eq_nil_iff.2 fun y hy hxy=>by
     have:=hu y hy
     unfold fK at this hxa hxy
     simp only[Bool.and_eq_true]at hxa hxy
     rw[o.trans _ _ _ hxa.2 hxy.1,o.trans _ _ _ hxy.2 hxa.1]at this
     cases this
    rw[hux,List.nil_append]at hx⊢
    injection hx
   ·rw[if_neg hxa,if_neg hxa]at hx
    exact hx
  rw[List.length_cons,oR o h2]
  simp;omega
end
end Wl
