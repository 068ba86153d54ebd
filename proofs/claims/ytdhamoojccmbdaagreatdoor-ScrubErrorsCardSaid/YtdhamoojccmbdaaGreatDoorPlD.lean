/- Part of the proofs that the laws of this seat answer true whatever the input reads, and leave it as it was; no condition. -/
import Derived.Test.YtdhamoojccmbdaaGreatDoorPlA
import Derived.Test.YtdhamoojccmbdaaGreatDoorPlB
set_option linter.unusedVariables false
set_option linter.unusedSimpArgs false
namespace Wl
def cF (p:Int×Int×Int):Bool:=decide (p.1≥1)&&(decide (p.1≤16)&&(decide (p.2.1≥1)&&(decide (p.2.1≤4)&&(decide (p.2.2≥1)&&decide (p.2.2≤24)))))
theorem fC (p:Int×Int×Int):cF p=true↔(1≤p.1∧p.1≤16)∧(1≤p.2.1∧p.2.1≤4)∧1≤p.2.2∧p.2.2≤24:=by
 simp[cF,and_assoc]
def ko (p:Int×Int×Int):Int:=if cF p then p.1+p.2.1 else 0
end Wl
namespace Wl
open Go
def xf (s:Int):Int:=IntKind.wrap .u64 (IntKind.wrap .u64 (s*(6364136223846793005:Int))+(1442695040888963407:Int))
def told (s:Int):Int:=IntKind.wrap .u32 (Int.fdiv (xf s) (2^min (32:Int).toNat (IntKind.bits .u64)))
def xg (s n:Int):Int:=IntKind.wrap .i64 (Int.tmod (IntKind.wrap .u64 (told s)) (IntKind.wrap .u64 n))
def AS (l:List Int) (i:Nat):Int:=l.getD i 0
def By (l:List Int) (i j:Nat):List Int:=(l.set i (AS l j)).set j (AS l i)
def vZ (n:Nat) (s:Int) (l:List Int):Nat→Int×List Int
 |0=>(s,l)
 |k+1=>(xf (vZ n s l k).1,By (vZ n s l k).2 k (k+(xg (vZ n s l k).1 ((n-k:Nat):Int)).toNat))
def upto (n:Nat):List Int:=(List.range n).map fun i:Nat=>(i:Int)
def eI (l:List Int):List Int:=l.mergeSort fun x y=>decide (x≤y)
theorem xh (l:List Int):(eI l).length=l.length:=List.length_mergeSort l
theorem xi (l:List Int) (x:Int):x∈eI l↔x∈l:=List.mem_mergeSort
def Bz (s:Int) (n k:Nat):List Int:=eI ((vZ n s (upto n) k).2.take k)
def pz (l:Nat):Nat:=if l≤1 then l else if l≤4 then 2 else if l≤9 then 3 else if l≤16 then 4 else 5
def BA (r:Nat):Nat:=if r=0 then 0 else if r=1 then 1 else if r≤3 then 2 else 3
def Ab (l k:Nat):Nat:=
 (if k>1 then 1048576/(k*(k-1))else 1048576/l)+
  (if k<l/pz l then 1048576*pz l/(l*k)else if k=l/pz l then 1048576*pz l*BA (pz l)/l else 0)
def yB (l:Nat):Nat→Nat
 |0=>0
 |k+1=>yB l k+Ab l (k+1)
def AT (l:Nat):List Int:=(List.range l).map fun k=>((yB l (k+1):Nat):Int)
def BU (t:List Int) (x:Int):Nat:=(t.findIdx fun y=>decide (y>x))+1
def xj (seed id:Int):Int:=IntKind.wrap .u64 (IntKind.wrap .u32 ((BitVec.ofInt (IntKind.bits .u32) seed^^^(BitVec.ofInt (IntKind.bits .u32) (IntKind.wrap .u32 ((IntKind.wrap .u32 id)*(2654435761:Int))))).toNat:Nat))
def BB (s:Int) (n:Nat):Nat:=BU (AT n) (xg s (yB n n))
def pA (id:Int):Bool:=decide (0≤id)&&decide (id≤65535)
def BC (n:Nat) (seed id:Int):List Int:=Bz (xf (xf (xj seed id))) n (BB (xf (xj seed id)) n)
def wa (n:Nat) (l:List Int):List UInt8:=l.foldl (fun r i=>r.set i.toNat 1) (List.replicate n 0)
theorem yC (n:Nat) (l:List Int):(wa n l).length=n:=by
 have:∀(l:List Int) (r:List UInt8),(l.foldl (fun r i=>r.set i.toNat 1) r).length=r.length:=by
  intro l
  induction l with
  |nil=>intro r;rfl
  |cons a t ih=>intro r;rw[List.foldl_cons,ih];simp
 rw[wa,this];simp
def yD (n:Nat) (seed id:Int):List UInt8:=wa n (BC n seed id)
theorem yE (n:Nat) (seed id:Int):(yD n seed id).length=n:=yC _ _
def jR (K H h:Nat):List UInt8:=(List.range K).map (fun j=>Gf.pw ((h+1)*(j+1)%255))++(List.range H).map fun i=>if i=h then 1 else 0
end Wl
namespace Wl
def iV (K H:Nat):List (List UInt8):=(List.range H).map (jR K H)
theorem tG (K H h:Nat):(jR K H h).length=K+H:=by simp[jR]
def ir (p:Int×Int×Int) (seed:Int) (ids:List Int):List (List UInt8):=
 if cF p then iV p.1.toNat p.2.1.toNat++(ids.filter pA).map (yD (ko p).toNat seed)else[]
end Wl
namespace Wl
abbrev Row:=List UInt8
abbrev aZ:=List Row
def scaleB (c:UInt8) (l:Row):Row:=l.map (Gf.mul c)
def cI (c:UInt8) (a to:Row):Row:=List.zipWith (fun x y=>y^^^Gf.mul c x) a to
def aL (r:Row) (bA:Nat):UInt8:=r.getD bA 0
def aD (m:aZ) (i:Nat):Row:=m.getD i []
def fO (m:aZ) (top bA:Nat):Option Nat:=(List.range m.length).find? fun i=>decide (top≤i)&&(aL (aD m i) bA !=0)
def fb (m:aZ) (i j:Nat):aZ:=(m.set i (aD m j)).set j (aD m i)
def fw (top bA:Nat) (m:aZ) (k:Nat):aZ:=m.mapIdx fun i r=>if i<k∧i≠top then cI (aL r bA) (aD m top) r else r
def fc (top bA:Nat) (m:aZ):aZ:=m.set top (scaleB (Gf.inv (aL (aD m top) bA)) (aD m top))
def gJ (s:Nat×aZ) (bA:Nat):Nat×aZ:=
 match fO s.2 s.1 bA with
 |none=>s
 |some i=>(s.1+1,fw s.1 bA (fc s.1 bA (fb s.2 s.1 i)) s.2.length)
def bq (m:aZ):Nat→Nat×aZ
 |0=>(0,m)
 |c+1=>gJ (bq m c) c
def pB (m:aZ):Nat:=(aD m 0).length
def cY (m:aZ):Nat:=(bq m (pB m)).1
def aM (n:Nat) (m:aZ):Prop:=∀r∈m,r.length=n
theorem kp (c:UInt8) (l:Row):(scaleB c l).length=l.length:=by simp[scaleB]
theorem bg {c:UInt8} {a t:Row} (h:a.length=t.length):(cI c a t).length=t.length:=by simp[cI,h]
theorem eT {m:aZ} {i:Nat} (h:i<m.length):aD m i=m[i]:=by rw[aD,List.getD_eq_getElem?_getD,List.getElem?_eq_getElem h];rfl
theorem bT {n:Nat} {m:aZ} (h:aM n m) {i:Nat} (hi:i<m.length):(aD m i).length=n:=by rw[eT hi];exact h _ (List.getElem_mem hi)
theorem oQ {n:Nat} {m:aZ} (h:aM n m) {i:Nat} {r:Row} (hr:r.length=n):aM n (m.set i r):=fun x hx=>by
 rcases List.mem_or_eq_of_mem_set hx with h1|h1
 ·exact h x h1
 ·rw[h1];exact hr
theorem oh {m:aZ} {top bA i:Nat} (h:fO m top bA=some i):top≤i∧i<m.length∧aL (aD m i) bA≠0:=by
 have h1:=List.find?_some h
 have h2:=List.mem_of_find?_eq_some h
 simp at h1 h2
 exact⟨h1.1,h2,h1.2⟩
theorem uM {m:aZ} {top bA:Nat} (h:fO m top bA=none):∀i,top≤i→i<m.length→aL (aD m i) bA=0:=fun i h1 h2=>by
 have:=List.find?_eq_none.1 h i (List.mem_range.2 h2)
 simpa[h1]using this
theorem gy (m:aZ) (i j:Nat):(fb m i j).length=m.length:=by simp[fb]
theorem rE {n:Nat} {m:aZ} (h:aM n m) {i j:Nat} (hi:i<m.length) (hj:j<m.length):aM n (fb m i j):=oQ (oQ h (bT h hj)) (bT h hi)
theorem jS (t c:Nat) (m:aZ):(fc t c m).length=m.length:=by simp[fc]
theorem mQ {n:Nat} {m:aZ} (h:aM n m) {t c:Nat} (ht:t<m.length):aM n (fc t c m):=oQ h (by rw[kp];exact bT h ht)
theorem jT (t c:Nat) (m:aZ) (k:Nat):(fw t c m k).length=m.length:=by simp[fw]
theorem kq {n:Nat} {m:aZ} (h:aM n m) {t c k:Nat} (ht:t<m.length):aM n (fw t c m k):=fun x hx=>by
 obtain⟨i,hi,rfl⟩:=List.mem_mapIdx.1 hx
 have hl:=h _ (List.getElem_mem hi)
 split
 ·rw[bg (by rw[bT h ht,hl])];exact hl
 ·exact hl
theorem lJ {t c k:Nat} {m:aZ} {i:Nat} (hi:i<m.length):aD (fw t c m k) i=if i<k∧i≠t then cI (aL (aD m i) c) (aD m t) (aD m i)else aD m i:=by
 rw[eT (by rw[jT];exact hi),eT hi];simp[fw]
theorem xk {n:Nat} {s:Nat×aZ} (h:aM n s.2) (bA:Nat):aM n (gJ s bA).2∧(gJ s bA).2.length=s.2.length:=by
 unfold gJ
 cases hb:fO s.2 s.1 bA with
 |none=>exact⟨h,rfl⟩
 |some i=>
  have hh:=oh hb
  dsimp only
  refine⟨kq (mQ (rE h (by omega) hh.2.1) (by rw[gy];omega)) (by rw[jS,gy];omega),by rw[jT,jS,gy]⟩
theorem iM {n:Nat} {m:aZ} (h:aM n m):∀c,aM n (bq m c).2∧(bq m c).2.length=m.length
 |0=>⟨h,rfl⟩
 |c+1=>by
  have:=iM h c
  have h2:=xk this.1 c
  rw[bq]
  exact⟨h2.1,by rw[h2.2,this.2]⟩
end Wl
namespace Go.Vc
open Go
section
variable {C:Ctx} {t t2 ty e k:Nat} {z:List Value} {by_:Nat} {α:Type} {h h0:Heap} {p B:ag} {s v:Sl} {f:α→List Value} {l l2:List α} {As:List HP}
theorem Own.tH (hC:C.Ok) (he:bk C.tokX t e k z by_) (hw:∀x,(f x).length=k) (ho:Own h e s k f l) (hv:Seq h p v k f l2) (hone:∀x,∀c∈f x,c.oneCell'=true) (j:Nat) (hj:j≤l.length) {pt:Option Addr} {ln cp:Nat} (hpt:pt=if s.cap=j then s.ptr else s.ptr.map (·.add (j*k))) (hln:ln=s.len-j) {K:Int→Heap→Prop}
  (hk:∀n h',Own h' e s k f (l.take j++(l2.take (l.length-j)++l.drop (j+l2.length)))→ar (fun b=>¬s.on b) h h'→K n h'):
  av C.P (Builtin.copy_ #[t,t2] ty #[.slice pt ln cp,.slice v.ptr v.len v.cap]) (.one (.sc (.int .i64))) h K:=by
 unfold av Builtin.copy_
 simp only[List.getElem?_toArray,List.getElem?_cons_zero,List.getElem?_cons_succ]
 refine ab.bind (ab.always (al (he.under hC)) ?_)
 refine ab.bind (ab.pure' ?_)
 refine ab.bind (ab.always (he.size hC) ?_)
 have hl1:=ho.len;have hl2:=hv.len
 have hcap:=ho.cap
 obtain⟨m,hm⟩:∃m,m=Nat.min v.len ln:=⟨_,rfl⟩
 rw[←hm]
 have hm1:m≤l2.length:=by rw[hm,←hl2];exact Nat.min_le_left _ _
 have hm2:m≤l.length-j:=by rw[hm,←hl1,hln];exact Nat.min_le_right _ _
 have hm3:m=min l2.length (l.length-j):=by rw[hm,hln,hl1,hl2]
 have hv':=hv.take m hm1
 have e0:l2.take (l.length-j)++l.drop (j+l2.length)=l2.take m++l.drop (j+m):=by
  rcases Nat.le_total l2.length (l.length-j)with hh|hh
  ·rw[List.take_of_length_le hh,show m=l2.length by omega,List.take_length]
  ·rw[show m=l.length-j by omega,List.drop_of_length_le (show l.length≤j+l2.length by omega),List.drop_of_length_le (by omega)]
 rw[e0]at hk
 have efc:Builtin.firstCells k m (.slice v.ptr v.len v.cap)=Builtin.firstCells k m (.slice v.ptr m v.cap):=by cases v.ptr<;>rfl
 rw[efc]
 refine ab.bind (cK (v:=⟨v.ptr,m,v.cap⟩) hw hv' ?_)
 have triv:m=0→l.take j++(l2.take m++l.drop (j+m))=l:=fun e=>by rw[e];simp
 rcases ho.head with⟨h1,h2,h3⟩|⟨b,rest,h1,h2,h3,h4⟩
 ·have hp0:pt=none:=by rw[hpt,h1];split<;>rfl
  rw[hp0]
  subst h3
  have:m=0:=by simp at hm2;exact hm2
  refine ab.pure' ⟨_,rfl,hk _ h ?_ (ar.refl _ _)⟩
  rw[triv this];exact ho
 ·by_cases hcj:s.cap=j
  ·have hp0:pt=some ⟨b,0,none⟩:=by rw[hpt,if_pos hcj,h1]
   rw[hp0]
   have hm0:m=0:=by omega
   refine ab.bind ?_
   rw[hm0]
   simp only[List.take_zero,List.flatMap_nil]
   exact ab.pure' (ab.pure' ⟨_,rfl,hk _ h (by rw[triv hm0];exact ho) (ar.refl _ _)⟩)
  ·have hp0:pt=some ⟨b,0+j*k,none⟩:=by rw[hpt,if_neg hcj,h1];simp only[Option.map_some];rw[add_eq]
   rw[hp0]
   refine ab.bind ?_
   have esp:l.flatMap f++rest=(l.take j).flatMap f++((l.drop j).take m).flatMap f++((l.drop (j+m)).flatMap f++rest):=by
    rw[←List.append_assoc,←List.flatMap_append,←List.flatMap_append,←List.drop_drop,List.append_assoc (List.take j l),List.take_append_drop,List.take_append_drop]
   rw[esp]at h2
   refine bD (e:=e) (pre:=(l.take j).flatMap f) (old:=((l.drop j).take m).flatMap f) (post:=(l.drop (j+m)).flatMap f++rest) h2 (by rw[bK hw,bK hw,List.length_take,List.length_take,List.length_drop];congr 1;omega) (by rw[bK hw,List.length_take];rw[Nat.min_eq_left hj];omega) ?_ ?_
   ·intro c hc
    obtain⟨x,_,hxc⟩:=List.mem_flatMap.1 hc
    exact hone x c hxc
   ·refine ab.pure' ⟨_,rfl,hk _ _ ⟨by rw[hl1,List.length_append,List.length_append,List.length_take,List.length_take,List.length_drop];omega,.inr ⟨b,rest,h1,?_,h3,h4⟩⟩ (ar.cV h2 (fun hn=>hn ⟨0,h1⟩))⟩
    rw[cH h2,if_pos rfl,List.flatMap_append,List.flatMap_append];simp[List.append_assoc]
theorem aa.tH (hC:C.Ok) (H:aa B h0 h As) (i:Nat) (hi:As[i]?=some (aq e s k f l)) (he:bk C.tokX t e k z by_) (hw:∀x,(f x).length=k) (hv:Seq h p v k f l2) (hone:∀x,∀c∈f x,c.oneCell'=true) (j:Nat) (hj:j≤l.length) {pt:Option Addr} {ln cp:Nat} (hpt:pt=if s.cap=j then s.ptr else s.ptr.map (·.add (j*k))) (hln:ln=s.len-j) {K:Int→Heap→Prop}
  (hk:∀n h',aa B h0 h' (As.set i (aq e s k f (l.take j++(l2.take (l.length-j)++l.drop (j+l2.length)))))→K n h'):
  av C.P (Builtin.copy_ #[t,t2] ty #[.slice pt ln cp,.slice v.ptr v.len v.cap]) (.one (.sc (.int .i64))) h K:=
 (H.own i hi).tH hC he hw hv hone j hj hpt hln fun n h' x y=>hk n h' (H.iq i hi y x)
end
end Go.Vc
namespace Wl
open Go
def b8 (n:Int):UInt8:=UInt8.ofNat (n%256).toNat
theorem bR (n:Int):IntKind.wrap .u8 n=((b8 n).toNat:Int):=by
 have h0:=Int.emod_nonneg n (show(256:Int)≠0 by decide)
 have h1:=Int.emod_lt_of_pos n (show(0:Int)<256 by decide)
 have e:((b8 n).toNat:Int)=n%256:=by
  unfold b8
  rw[UInt8.toNat_ofNat']
  omega
 rw[e]
 unfold IntKind.wrap
 simp[IntKind.bits,IntKind.signed]
abbrev iW:=BitVec 32
def pC (s:iW):iW:=if s&&&1#32=1#32 then(s>>>1)^^^3988292384#32 else s>>>1
def k4:Nat→iW→iW
 |0,s=>s
 |n+1,s=>pC (k4 n s)
def vD (s:iW) (x:UInt8):iW:=k4 8 (s^^^BitVec.ofNat 32 x.toNat)
def jt (l:List UInt8):iW:=l.foldl vD 4294967295#32
def k5 (l:List UInt8):iW:=4294967295#32^^^jt l
theorem wb (l:List UInt8) (x:UInt8):jt (l++[x])=vD (jt l) x:=by unfold jt;rw[List.foldl_append];rfl
theorem tI (s:iW):IntKind.wrap .u32 ((s.toNat:Nat):Int)=(s.toNat:Int):=by
 have:=s.isLt
 unfold IntKind.wrap
 simp[IntKind.bits,IntKind.signed]
 omega
theorem wc (a b:iW):IntKind.wrap .u32 ((BitVec.ofInt (IntKind.bits .u32) (a.toNat:Int)^^^BitVec.ofInt (IntKind.bits .u32) (b.toNat:Int)).toNat:Nat)=((a^^^b).toNat:Int):=by
 show IntKind.wrap .u32 (((BitVec.ofInt 32 (a.toNat:Int)^^^BitVec.ofInt 32 (b.toNat:Int):BitVec 32).toNat:Nat):Int)=_
 rw[BitVec.ofInt_natCast,BitVec.ofInt_natCast,BitVec.ofNat_toNat,BitVec.ofNat_toNat,BitVec.setWidth_eq,BitVec.setWidth_eq,tI]
theorem BD (a b:iW):IntKind.wrap .u32 ((BitVec.ofInt (IntKind.bits .u32) (a.toNat:Int)&&&BitVec.ofInt (IntKind.bits .u32) (b.toNat:Int)).toNat:Nat)=((a&&&b).toNat:Int):=by
 show IntKind.wrap .u32 (((BitVec.ofInt 32 (a.toNat:Int)&&&BitVec.ofInt 32 (b.toNat:Int):BitVec 32).toNat:Nat):Int)=_
 rw[BitVec.ofInt_natCast,BitVec.ofInt_natCast,BitVec.ofNat_toNat,BitVec.ofNat_toNat,BitVec.setWidth_eq,BitVec.setWidth_eq,tI]
theorem xl (n:Int):IntKind.wrap .u32 n=((BitVec.ofInt 32 n).toNat:Int):=by
 unfold IntKind.wrap
 simp[IntKind.bits,IntKind.signed,BitVec.toNat_ofInt]
 omega
theorem Ac (s:iW):Int.fdiv (s.toNat:Int) (2^min (1:Int).toNat (IntKind.bits .u32))=((s>>>1).toNat:Int):=by
 rw[show min (1:Int).toNat (IntKind.bits .u32)=1 from rfl,Int.fdiv_eq_ediv_of_nonneg _ (by decide),BitVec.toNat_ushiftRight,Nat.shiftRight_eq_div_pow]
 simp
theorem vE (s:iW):((s&&&1#32).toNat:Int)=1↔s&&&1#32=1#32:=by
 constructor
 ·intro h
  apply BitVec.eq_of_toNat_eq
  have:(1#32:iW).toNat=1:=rfl
  omega
 ·intro h;rw[h];rfl
def gv (s:iW):List UInt8:=(List.range 4).map fun i=>b8 (Int.fdiv (s.toNat:Int) (2^(8*i)))
theorem tJ (s:iW):(gv s).length=4:=by simp[gv]
def bJ (kind:Int) (body:List UInt8):List UInt8:=[87,115,1,b8 kind]++body++List.replicate (55-body.length) 0
def cb (kind:Int) (body:List UInt8):List UInt8:=
 if 1≤kind∧kind≤255∧body.length≤55 then bJ kind body++gv (k5 (bJ kind body))++[165]else[]
theorem mR {kind:Int} {body:List UInt8} (h:body.length≤55):(bJ kind body).length=59:=by simp[bJ];omega
theorem kQ {kind:Int} {body:List UInt8} (h1:1≤kind) (h2:kind≤255) (h3:body.length≤55):(cb kind body).length=64:=by
 unfold cb;rw[if_pos ⟨h1,h2,h3⟩];simp[mR h3,tJ]
end Wl
namespace Go.Vc
open Go
def dj (s:ByteArray):List UInt8:=s.data.toList
theorem lK (s:ByteArray):(dj s).length=s.size:=rfl
def BV (n:Nat):Obj→Obj
 | .cells c elem (lo,hi)=>.cells c elem (if lo==hi then(n,n+1)else(min lo n,max hi (n+1)))
 |o=>o
theorem ab.xm {P:Program} {h:Heap} {b n:Nat} {c:Array Value} {e:TypeId} {K:Unit→Heap→Prop} (hb:h[b]?=some (.cells c e (0,0))) (hn:n=c.size) (hk:∀h',(∀x,x≠b→h'[x]?=h[x]?)→h'.size=h.size→(∃f,h'[b]?=some (.cells c e f))→K () h'):
  ab P (freeze {block:=b,off:=n} 1) h K:=fun w hw=>by
 refine⟨(),w.freeze {block:=b,off:=n} 1,run_freeze P w _ _,⟨rfl,rfl,rfl,Nat.le_refl _⟩,?_⟩
 subst hw
 have hg:(w.freeze {block:=b,off:=n} 1).heap=w.heap.modify b (BV n):=rfl
 refine hk _ (fun x hx=>?_) ?_ ?_
 ·rw[hg,Array.getElem?_modify,if_neg (fun e=>hx e.symm)]
 ·rw[hg];simp
 ·rw[hg,Array.getElem?_modify,if_pos rfl,hb]
  exact⟨_,rfl⟩
section
variable {C:Ctx} {B:ag} {h h0:Heap} {As:List HP} {t e ts:Nat}
theorem Ad (hC:C.Ok) (hs:∃i,C.T.get ts=some i∧i.bj=.str) (ht:∃i,C.T.get t=some i∧i.bj=.slice e) (he:∃i,C.T.get e=some i∧i.bj=.int .u8) (s:ByteArray) {K:Sl→Heap→Prop} (hk:∀r h',Sp h h' [tn r 1 aF (dj s)]→K r h'):
  av C.P (convert ts t (.string s)) (.one (.sc .slc)) h K:=by
 obtain⟨i1,a1,b1⟩:=hs
 obtain⟨i2,a2,b2⟩:=ht
 obtain⟨i3,a3,b3⟩:=he
 have u1:C.P.underlying ts=some .string:=by have:=hC.bj a1;rw[b1]at this;exact jC this
 have u2:C.P.underlying t=some (.slice e):=by have:=hC.bj a2;rw[b2]at this;exact dU this
 have u3:C.P.underlying e=some (.int .u8):=by have:=hC.bj a3;rw[b3]at this;exact nJ this
 unfold av convert
 refine ab.bind (ab.always (al u1) ?_)
 refine ab.bind (ab.always (al u2) ?_)
 refine ab.bind (ab.always (al u3) ?_)
 unfold Conv.stringToBytes
 refine ab.bind (ab.qv ⟨fun hf=>(by cases hf),fun _ nn=>?_⟩)
 generalize hcc:Question.cut (Question.appendCap s.size 0 e) nn=cc
 have hcc':s.size≤cc:=by rw[←hcc];simp only[Question.cut];omega
 unfold newRow
 refine ab.bind (ab.bind (ab.ig (ab.pure' ?_)))
 unfold markStringish
 obtain⟨cs,hcs⟩:∃cs:Array Value,cs=s.data.map (fun b=>Value.int .u8 b.toNat)++Array.replicate (cc-s.size) (Value.int .u8 0):=⟨_,rfl⟩
 rw[←hcs]
 refine ab.bind (ab.bind (ab.AE ?_))
 have hsh:shapeOf (h.push (.cells cs e)) h.size=some (e,cs.size):=by unfold shapeOf;simp
 dsimp only
 rw[hsh]
 refine ab.xm (c:=cs) (e:=e) (by simp) rfl fun h' k1 k2 k3=>?_
 refine ab.pure' ⟨⟨some ⟨h.size,0,none⟩,s.size,cc⟩,rfl,hk _ _ ?_⟩
 obtain⟨f,k3⟩:=k3
 refine .one ⟨by rw[k2];simp,fun b hb _=>by rw[k1 b (by omega),Array.getElem?_push,if_neg (by omega)]⟩ ?_
 refine⟨by rw[lK],fun i x hx=>⟨h.size,0,rfl,⟨Nat.le_refl _,by rw[k2];simp⟩,?_,trivial⟩⟩
 rw[add_zero]
 have hi:i<s.data.size:=by have:=(List.getElem?_eq_some_iff.1 hx).1;simpa[dj]using this
 unfold cellOf
 simp only[k3,Nat.mul_one,Nat.zero_add,Option.isSome_none,Bool.false_eq_true,if_false]
 rw[hcs,Array.getElem?_append_left (by simpa using hi),Array.getElem?_map]
 have:s.data[i]?=some x:=by rw[←hx];simp[dj]
 rw[this];rfl
end
section
variable {C:Ctx} {t t2 e k:Nat} {z:List Value} {by_:Nat} {h h0:Heap} {B:ag} {As:List HP} {s:Sl} {l:List UInt8}
theorem rY (hC:C.Ok) (he:bk C.tokX t e 1 z by_) (h2:∃i,C.T.get t2=some i∧i.bj=.str) (hz:z.length=1) (hby:0<by_∧by_≤128)
  (ho:Own h e s 1 aF l) (x:ByteArray) (hsz:l.length+x.size≤2^32) {ty:Nat} {K:Sl→Heap→Prop}
  (hk:∀s' h',Own h' e s' 1 aF (l++dj x)→ar (fun b=>¬s.on b) h h'→(∀b,s'.on b→s.on b∨h.size≤b)→K s' h'):
  av C.P (Builtin.append_ #[t,t2] ty #[.slice s.ptr s.len s.cap,.string x]) (.one (.sc .slc)) h K:=by
 obtain⟨i2,g1,g2⟩:=h2
 have hu2:C.P.underlying t2=some .string:=by have:=hC.bj g1;rw[g2]at this;exact jC this
 obtain⟨inf,x1,x2,x3,zv,x4,x5⟩:=he.info hC
 have hone:∀y∈(dj x).flatMap aF,y.oneCell'=true:=fun y hy=>by
  obtain⟨b,_,hb⟩:=List.mem_flatMap.1 hy
  exact eO b y hb
 have hcells:((x.extract 0 x.size).data.map fun b=>Value.int .u8 (b.toNat:Int))=((dj x).flatMap aF).toArray:=by
  have e0:x.extract 0 x.size=x:=by
   apply ByteArray.ext
   simp[ByteArray.data_extract]
  rw[e0]
  apply Array.ext'
  simp only[Array.toList_map,dj]
  exact List.map_eq_flatMap
 unfold av Builtin.append_
 simp only[List.getElem?_toArray,List.getElem?_cons_zero,List.getElem?_cons_succ]
 refine ab.bind (ab.always (al (he.under hC)) ?_)
 refine ab.bind (ab.always (he.size hC) ?_)
 refine ab.bind (ab.always (al hu2) ?_)
 refine ab.bind (ab.pure' ?_)
 simp only[Bool.false_eq_true,if_false,Bool.not_false,if_true]
 refine ab.bind (ab.pure' ?_)
 have hlen:=ho.len
 have hw:∀y,(aF y).length=1:=fun _=>rfl
 have hflat:=bK hw l
 have hflat2:=bK hw (dj x)
 have hxl:=lK x
 have hfc:∀{h:Heap} {K:Array Value→Heap→Prop},K ((dj x).flatMap aF).toArray h→ab C.P (Builtin.firstCells 1 x.size (.string x)) h K:=fun{h K} hK=>by
  unfold Builtin.firstCells
  dsimp only
  rw[hcells]
  exact ab.pure' hK
 by_cases hfit:s.len+x.size≤s.cap
 ·rw[if_pos hfit]
  refine ab.bind (hfc ?_)
  rcases ho.head with⟨p1,p2,p3⟩|⟨b,rest,p1,p2,p3,p4⟩
  ·rw[p1]
   have hx0:dj x=[]:=List.eq_nil_of_length_eq_zero (by omega)
   refine ab.pure' ⟨⟨none,s.len+x.size,s.cap⟩,rfl,hk _ _ ⟨?_,.inl ⟨rfl,p2,by simp[p3,hx0]⟩⟩ (ar.refl _ _) ?_⟩
   ·simp;omega
   ·rintro b' ⟨o,ho'⟩;cases ho'
  ·rw[p1]
   refine ab.bind ?_
   rw[add_eq,Nat.zero_add]
   have hrl:((dj x).flatMap aF).length≤rest.length:=by
    rw[hflat2,p3];omega
   refine bD (e:=e) (pre:=l.flatMap aF) (old:=rest.take ((dj x).flatMap aF).length) (post:=rest.drop ((dj x).flatMap aF).length) ?_ ?_ ?_ ?_ ?_
   ·rw[List.append_assoc,List.take_append_drop];exact p2
   ·rw[List.length_take];exact Nat.min_eq_left hrl
   ·rw[hflat,hlen];omega
   ·intro c hc;exact hone c (by simpa using hc)
   ·refine ab.pure' ⟨⟨some ⟨b,0,none⟩,s.len+x.size,s.cap⟩,rfl,hk _ _ ⟨?_,.inr ⟨b,rest.drop ((dj x).flatMap aF).length,rfl,?_,?_,hfit⟩⟩ ?_ ?_⟩
    ·simp;omega
    ·rw[cH p2,if_pos rfl];simp
    ·rw[List.length_drop,p3,hflat2]
     show(s.cap-s.len)*1-(dj x).length*1=(s.cap-(s.len+x.size))*1
     omega
    ·exact ar.cV p2 (fun hn=>hn ⟨0,p1⟩)
    ·rintro b' ⟨o,ho'⟩;cases ho';exact .inl ⟨0,p1⟩
 ·rw[if_neg hfit]
  have hseq:Seq h (fun _=>True) s 1 aF l:=ho.seq hw (fun _ _=>trivial)
  have hcap:=ho.cap
  refine ab.bind (ab.always (bo x1) ?_)
  rw[if_neg (fun hh=>by rcases hh.2 with h|h<;>first|exact h|(rw[x3]at h;omega))]
  refine ab.bind (ab.always (bo x1) ?_)
  have hnx:=vw (s.len+x.size) s.cap (by omega)
  rw[if_neg (by
   have:Builtin.nextslicecap (s.len+x.size) s.cap*inf.bytes≤(16*2^32+16*768)*128:=Nat.mul_le_mul (by omega) (by rw[x3];exact hby.2)
   omega)]
  refine ab.bind (ab.qv ⟨fun hf=>(by cases hf),fun _ nn=>?_⟩)
  refine ab.bind (ab.always (bo x1) ?_)
  refine ab.bind (ab.oI ?_)
  refine ab.bind (cK hw hseq ?_)
  refine ab.bind (hfc ?_)
  have hzv:ak C.P (zeroValue e) zv:=(bo x1).bind (by rw[x4];exact .pure)
  refine ab.bind (ab.always hzv ?_)
  rw[x5,mJ]
  unfold newRow
  refine ab.bind (ab.bind (ab.ig (ab.pure' (ab.pure' ?_))))
  generalize hcc:Question.cut (Question.appendCap (s.len+x.size) s.cap e) nn=cc
  have hcc':s.len+x.size≤cc:=by rw[←hcc];simp only[Question.cut];omega
  refine⟨⟨some ⟨h.size,0,none⟩,s.len+x.size,cc⟩,rfl,hk _ _ ⟨?_,.inr ⟨h.size,du z (cc-(s.len+x.size)),rfl,?_,?_,hcc'⟩⟩ (ar.push _ _ _) ?_⟩
  ·simp;omega
  ·simp
  ·rw[gu,hz]
  ·rintro b' ⟨o,ho'⟩;cases ho';exact .inr (Nat.le_refl _)
theorem aa.xn (hC:C.Ok) (H:aa B h0 h As) (i:Nat) (hi:As[i]?=some (aq e s 1 aF l)) (he:bk C.tokX t e 1 z by_) (h2:∃i,C.T.get t2=some i∧i.bj=.str) (hz:z.length=1) (hby:0<by_∧by_≤128)
  (x:ByteArray) (hsz:l.length+x.size≤2^32) {ty:Nat} {K:Sl→Heap→Prop} (hk:∀s' h',aa B h0 h' (As.set i (aq e s' 1 aF (l++dj x)))→K s' h'):
  av C.P (Builtin.append_ #[t,t2] ty #[.slice s.ptr s.len s.cap,.string x]) (.one (.sc .slc)) h K:=by
 obtain⟨lo,pp,c,zz,a⟩:=H
 have ha:=a i _ hi
 refine rY hC he h2 hz hby ha.1 x hsz fun s' h' ho' hp' hn'=>hk s' h' ?_
 refine aa.sJ lo pp zz a (hp'.mono fun b hb hn hc=>hn (ha.2 b hc)) ⟨ho',fun b hb=>⟨ho'.lt hb,?_⟩⟩
 rcases hn' b hb with h1|h1
 ·exact .inl (ha.2 b h1)
 ·exact .inr h1
end
end Go.Vc
namespace Wl
open Go
structure cJ where
 name:ByteArray
 object:Int
 length:Int
 tries:List Int
structure aP where
 seq:Int
 next:Int
 p:Int×Int×Int
 extra:Int
 drives:List Int
 aB:List cJ
def BE:cJ:=⟨⟨#[]⟩,0,0,[]⟩
def gK (l:List cJ) (i:Nat):cJ:=l.getD i BE
theorem gw {l:List cJ} {i:Nat} (h:i<l.length):gK l i=l[i]:=by unfold gK;rw[List.getD_eq_getElem?_getD,List.getElem?_eq_getElem h];rfl
def bZ (n a b:Int):Bool:=decide (a≤n)&&decide (n≤b)
def fD (c:UInt8):Bool:=(decide (97≤c.toNat)&&decide (c.toNat≤122))||(decide (48≤c.toNat)&&decide (c.toNat≤57))||decide (c.toNat=45)
def ju (s:ByteArray):Bool:=s.data.toList.all fD&&(decide (1≤s.size)&&decide (s.size≤12))
def fE (a b:ByteArray):Bool:=Op.bytesLess a.toList b.toList
def dL (l:List Int) (most:Int) (i:Nat):Bool:=bZ (l.getD i 0) 0 most&&(decide (i=0)||decide (l.getD (i-1) 0<l.getD i 0))
def gM (l:List Int) (most:Int):Bool:=(List.range l.length).all (dL l most)
def countP (p:Int×Int×Int) (n:Int):Int:=if cF p&&decide (0<n)then(n-1)/(p.1*p.2.2)+1 else 0
def dc (m:aP) (x:cJ):Bool:=
 ju x.name&&(bZ x.object 0 (m.next-1)&&(bZ x.length 0 (m.p.1*m.p.2.2*8)&&(x.tries.all (bZ · 0 15)&&decide ((x.tries.length:Int)=countP m.p x.length))))
def gN (m:aP) (i:Nat):Bool:=
 dc m (gK m.aB i)&&((decide (i=0)||fE (gK m.aB (i-1)).name (gK m.aB i).name)&&!(m.aB.take i).any fun y=>decide (y.object=(gK m.aB i).object))
def fx (m:aP):Bool:=bZ m.seq 1 2147483647&&(bZ m.next 0 16777216&&(cF m.p&&bZ m.extra 0 16))
def cj (m:aP):Bool:=fx m&&(gM m.drives 63&&(decide (m.aB.length≤12)&&(List.range m.aB.length).all (gN m)))
theorem mS {p:Nat→Bool} {n i:Nat} (hi:i<n) (h:p i=false):(List.range n).all p=false:=List.all_eq_false.2 ⟨i,List.mem_range.2 hi,by rw[h];simp⟩
theorem jh {p:Nat→Bool} {n:Nat} (h:∀i,i<n→p i=true):(List.range n).all p=true:=List.all_eq_true.2 fun i hi=>h i (List.mem_range.1 hi)
def bC (n:Int) (k:Nat):List UInt8:=(List.range k).map fun i=>b8 (Int.fdiv n (2^(8*(k-1-i))))
theorem bh (n:Int) (k:Nat):(bC n k).length=k:=by simp[bC]
def fy (x:cJ):List UInt8:=b8 x.name.size::(x.name.data.toList++(bC x.object 3++(bC x.length 2++x.tries.map b8)))
def eJ (m:aP):List UInt8:=
 if cj m then bC m.seq 4++(bC m.next 4++([b8 m.p.1,b8 m.p.2.1,b8 m.p.2.2,b8 m.extra,b8 m.drives.length]++(m.drives.map b8++(b8 m.aB.length::m.aB.flatMap fy))))else[]
def iu (seq number many:Int) (b:List UInt8):List UInt8:=cb 2 (bC seq 4++([b8 number,b8 many,b8 b.length]++b))
def dV (b:List UInt8):Nat:=(b.length+47)/48
def aS (m:aP):List (List UInt8):=(List.range (dV (eJ m))).map fun i:Nat=>iu m.seq i (dV (eJ m)) (((eJ m).drop (48*i)).take 48)
theorem xo {m:aP} (h:cj m=true):fx m=true:=by unfold cj at h;simp at h;exact h.1
theorem tK {m:aP} (h:fx m=true):(1≤m.seq∧m.seq≤2147483647)∧(0≤m.next∧m.next≤16777216)∧cF m.p=true∧0≤m.extra∧m.extra≤16:=by
 unfold fx bZ at h;simpa[and_assoc]using h
theorem pD {m:aP} {c:List UInt8} (h:c∈aS m):c.length=64:=by
 unfold aS at h
 obtain⟨i,_,rfl⟩:=List.mem_map.1 h
 exact kQ (by decide) (by decide) (by simp[bh];omega)
end Wl
namespace Wl
open Go
structure dh where
 object:Int
 block:Int
 id:Int
 p:Int×Int×Int
 seed:Int
 data:List UInt8
theorem AU (n:Int):((b8 n).toNat:Int)=n%256:=by
 have h0:=Int.emod_nonneg n (show(256:Int)≠0 by decide)
 have h1:=Int.emod_lt_of_pos n (show(0:Int)<256 by decide)
 unfold b8
 rw[UInt8.toNat_ofNat']
 omega
def ji (r:dh):Bool:=(bZ r.object 0 16777215&&(bZ r.block 0 7&&pA r.id))&&(cF r.p&&decide ((r.data.length:Int)=r.p.2.2))
def lL (r:dh):List UInt8:=bC r.object 3++(bC r.block 1++(bC r.id 2++([b8 r.p.1,b8 r.p.2.1,b8 r.p.2.2]++(bC r.seed 4++r.data))))
def gO (r:dh):List UInt8:=if ji r then cb 1 (lL r)else[]
def bU (l:List UInt8):Int:=l.foldl (fun n x=>n*256+x.toNat) 0
def fP (c:List UInt8):Option (Int×List UInt8):=
 if c.length=64∧cb ((c.getD 3 0).toNat:Int) ((c.drop 4).take 55)=c then some (((c.getD 3 0).toNat:Int),(c.drop 4).take 55)else none
def sN (x:List UInt8):dh:=
 ⟨bU (x.take 3),bU ((x.drop 3).take 1),bU ((x.drop 4).take 2),(bU ((x.drop 6).take 1),bU ((x.drop 7).take 1),bU ((x.drop 8).take 1)),bU ((x.drop 9).take 4),(x.drop 13).take (bU ((x.drop 8).take 1)).toNat⟩
def dv (c:List UInt8):Option dh:=
 match fP c with
 |some (k,x)=>if k=1∧cF (sN x).p=true∧gO (sN x)=c then some (sN x)else none
 |none=>none
theorem iv (r:dh):ji r=true↔(0≤r.object∧r.object≤16777215)∧(0≤r.block∧r.block≤7)∧(0≤r.id∧r.id≤65535)∧cF r.p=true∧(r.data.length:Int)=r.p.2.2:=by
 unfold ji bZ pA;simp[and_assoc]
theorem rF {r:dh} (h:ji r=true):(lL r).length=13+r.data.length∧r.data.length≤24:=by
 obtain⟨_,_,_,h4,h5⟩:=(iv r).1 h
 have:=(fC r.p).1 h4
 refine⟨by unfold lL;simp[bh];omega,by omega⟩
theorem xp {k:Int} {body:List UInt8} (h1:1≤k) (h2:k≤255) (h3:body.length≤55):fP (cb k body)=some (k,body++List.replicate (55-body.length) 0):=by
 obtain⟨x,hx⟩:∃x,x=body++List.replicate (55-body.length) 0:=⟨_,rfl⟩
 have hxl:x.length=55:=by rw[hx];simp;omega
 have e0:cb k body=[87,115,1,b8 k]++(x++(gv (k5 (bJ k body))++[165])):=by
  unfold cb
  rw[if_pos ⟨h1,h2,h3⟩]
  unfold bJ
  rw[hx];simp[List.append_assoc]
 have e1:((cb k body).getD 3 0)=b8 k:=by rw[e0];rfl
 have e2:((cb k body).drop 4).take 55=x:=by
  rw[e0]
  have:([87,115,1,b8 k]++(x++(gv (k5 (bJ k body))++[165]))).drop 4=x++(gv (k5 (bJ k body))++[165]):=rfl
  rw[this,List.take_append_of_le_length (by omega),List.take_of_length_le (by omega)]
 have e3:((b8 k).toNat:Int)=k:=by rw[AU];omega
 have e4:bJ k x=bJ k body:=by
  unfold bJ
  rw[hxl,hx];simp[List.append_assoc]
 have e5:cb k x=cb k body:=by
  unfold cb
  rw[if_pos ⟨h1,h2,by omega⟩,if_pos ⟨h1,h2,h3⟩,e4]
 unfold fP
 rw[e1,e2,e3,if_pos ⟨kQ h1 h2 h3,e5⟩,hx]
end Wl
namespace Go.Vc
open Go
section
variable {C:Ctx} {h:Heap} {t e ts:Nat}
theorem om:∀(l:List UInt8) (b:ByteArray),l.foldl ByteArray.push b=⟨(b.data.toList++l).toArray⟩
 |[],b=>by simp
 |x::l,b=>by
  rw[List.foldl_cons,om l (b.push x)]
  simp[ByteArray.push]
theorem vF (hC:C.Ok) (ht:∃i,C.T.get t=some i∧i.bj=.slice e) (hs:∃i,C.T.get ts=some i∧i.bj=.str) (he:∃i,C.T.get e=some i∧i.bj=.int .u8) {s:Sl} {l:List UInt8} {p:ag} (hv:Seq h p s 1 aF l) {K:ByteArray→Heap→Prop} (hk:K ⟨l.toArray⟩ h):
  av C.P (convert t ts (.slice s.ptr s.len s.cap)) (.one (.sc .str)) h K:=by
 obtain⟨i1,a1,b1⟩:=hs
 obtain⟨i2,a2,b2⟩:=ht
 obtain⟨i3,a3,b3⟩:=he
 have u1:C.P.underlying ts=some .string:=by have:=hC.bj a1;rw[b1]at this;exact jC this
 have u2:C.P.underlying t=some (.slice e):=by have:=hC.bj a2;rw[b2]at this;exact dU this
 have u3:C.P.underlying e=some (.int .u8):=by have:=hC.bj a3;rw[b3]at this;exact nJ this
 unfold av convert
 refine ab.bind (ab.always (al u2) ?_)
 refine ab.bind (ab.always (al u1) ?_)
 refine ab.bind (ab.always (al u3) ?_)
 unfold Conv.bytesToString
 have hfc:=cK (P:=C.P) (f:=aF) (k:=1) (K:=fun cs h'=>cs=(l.flatMap aF).toArray∧h'=h) (fun _=>rfl) hv ⟨rfl,rfl⟩
 cases hp:s.ptr with
 |none=>
  have:l=[]:=by
   cases l with
   |nil=>rfl
   |cons x r=>obtain⟨b,o,h1,_⟩:=hv.elem 0 x (by simp);rw[hp]at h1;cases h1
  subst this
  exact ab.pure' ⟨⟨#[]⟩,rfl,hk⟩
 |some a=>
  rw[hp]at hfc
  dsimp only
  have hfc':ab C.P (loadCells a s.len) h fun cs h'=>cs=(l.flatMap aF).toArray∧h'=h:=by
   have:Builtin.firstCells 1 s.len (.slice (some a) s.len s.cap)=loadCells a s.len:=by
    unfold Builtin.firstCells;simp
   rw[←this];exact hfc
  refine ab.bind (hfc'.mono ?_)
  rintro _ _ ⟨rfl,rfl⟩
  have key:∀(l:List UInt8) (b:ByteArray),ak C.P (forIn (m:=Sem) (l.flatMap aF) b fun c r=>match c with
    | .int .u8 n=>do pure (ForInStep.yield (r.push (UInt8.ofNat n.toNat)))
    |_=>do let r←stuck "bytesToString: byte expected";pure r) (l.foldl ByteArray.push b):=fun l=>by
   induction l with
   |nil=>intro b;exact .pure
   |cons x l ih=>
    intro b
    have e1:(x::l).flatMap aF=Value.int .u8 x.toNat::l.flatMap aF:=rfl
    rw[e1,List.forIn_cons]
    have e2:b.push (UInt8.ofNat ((x.toNat:Int)).toNat)=b.push x:=by
     rw[Int.toNat_natCast];congr 1;apply UInt8.toNat_inj.1;simp
    refine ak.bind (v:=ForInStep.yield (b.push x)) (by dsimp only;rw[e2];exact .pure) ?_
    exact ih _
  refine ab.bind (ab.always (v:=l.foldl ByteArray.push ByteArray.empty) ?_ ?_)
  ·rw[List.forIn_toArray]
   exact key l _
  ·refine ab.pure' ⟨_,rfl,?_⟩
   rw[om]
   exact hk
end
end Go.Vc
namespace Wl
section
variable {α:Type} (le:α→α→Bool)
def dd (a b:α):Bool:=le a b&&le b a
def ba (l l':List α):Prop:=∀x,l.filter (dd le x)=l'.filter (dd le x)
def Sd (l:List α):Prop:=l.Pairwise fun a b=>le a b=true
structure Ord:Prop where
 trans:∀a b c,le a b=true→le b c=true→le a c=true
 total:∀a b,(le a b||le b a)=true
variable {le}
theorem Ord.pE (o:Ord le) {a b:α} (h:¬le a b=true):le b a=true:=by
 have:=o.total a b
 cases h1:le a b with
 |true=>exact absurd h1 h
 |false=>rw[h1]at this;simpa using this
theorem Ord.refl (o:Ord le) (a:α):le a a=true:=by have:=o.total a a;simpa using this
theorem ba.refl (l:List α):ba le l l:=fun _=>rfl
theorem ba.trans {l1 l2 l3:List α} (h:ba le l1 l2) (k:ba le l2 l3):ba le l1 l3:=fun x=>(h x).trans (k x)
theorem ba.symm {l1 l2:List α} (h:ba le l1 l2):ba le l2 l1:=fun x=>(h x).symm
theorem ba.app {a b c d:List α} (h:ba le a b) (k:ba le c d):ba le (a++c) (b++d):=fun x=>by
 rw[List.filter_append,List.filter_append,h x,k x]
theorem ba.mem (o:Ord le) {l l':List α} (h:ba le l l') {y:α} (hy:y∈l'):y∈l:=by
 have h1:y∈l'.filter (dd le y):=List.mem_filter.2 ⟨hy,by unfold dd;rw[o.refl];rfl⟩
 rw[←h y]at h1
 exact(List.mem_filter.1 h1).1
theorem ba.zF (o:Ord le) {u v:List α} (h:∀x∈u,∀y∈v,¬le x y=true):ba le (u++v) (v++u):=fun z=>by
 rw[List.filter_append,List.filter_append]
 by_cases hu:u.filter (dd le z)=[]
 ·rw[hu];simp
 ·by_cases hv:v.filter (dd le z)=[]
  ·rw[hv];simp
  ·exfalso
   obtain⟨x,hx⟩:=List.exists_mem_of_ne_nil _ hu
   obtain⟨y,hy⟩:=List.exists_mem_of_ne_nil _ hv
   obtain⟨hx1,hx2⟩:=List.mem_filter.1 hx
   obtain⟨hy1,hy2⟩:=List.mem_filter.1 hy
   unfold dd at hx2 hy2
   simp only[Bool.and_eq_true]at hx2 hy2
   exact h x hx1 y hy1 (o.trans _ _ _ hx2.2 hy2.1)
theorem ba.tL (o:Ord le) {l:List α} (h:ba le [] l):l=[]:=by
 cases l with
 |nil=>rfl
 |cons a l=>exact absurd (ba.mem o h (List.mem_cons_self ..)) (by simp)
theorem rG (o:Ord le):∀(l l':List α),Sd le l→Sd le l'→ba le l l'→l=l'
 |[],l',_,_,h=>(ba.tL o h).symm
 |a::l,[],_,_,h=>absurd (ba.tL o h.symm) (by simp)
 |a::l,b::l',s,s',h=>by
  have hab:a=b:=by
   have h1:le a b=true:=by
    have:=ba.mem o h (y:=b) (List.mem_cons_self ..)
    rcases List.mem_cons.1 this with e|e
    ·rw[e];exact o.refl _
    ·exact(List.pairwise_cons.1 s).1 _ e
   have h2:le b a=true:=by
    have:=ba.mem o h.symm (y:=a) (List.mem_cons_self ..)
    rcases List.mem_cons.1 this with e|e
    ·rw[e];exact o.refl _
    ·exact(List.pairwise_cons.1 s').1 _ e
   have h3:=h a
   have e1:dd le a a=true:=by unfold dd;rw[o.refl];rfl
   have e2:dd le a b=true:=by unfold dd;rw[h1,h2];rfl
   rw[List.filter_cons_of_pos e1,List.filter_cons_of_pos e2]at h3
   injection h3
  subst hab
  rw[rG o l l' (List.pairwise_cons.1 s).2 (List.pairwise_cons.1 s').2 fun x=>by
   have h3:=h x
   rw[List.filter_cons,List.filter_cons]at h3
   split at h3
   ·injection h3
   ·exact h3]
theorem tM (o:Ord le) (l:List α):Sd le (l.mergeSort le)∧ba le l (l.mergeSort le):=by
 refine⟨List.pairwise_mergeSort o.trans o.total l,fun x=>?_⟩
 have hp:(l.filter (dd le x)).Pairwise fun a b=>le a b=true:=by
  rw[List.pairwise_filter]
  refine List.Pairwise.imp ?_ (List.pairwise_of_forall (l:=l) (R:=fun _ _=>True) fun _ _=>trivial)
  intro a b _ ha hb
  unfold dd at ha hb
  simp only[Bool.and_eq_true]at ha hb
  exact o.trans _ _ _ ha.2 hb.1
 have hs:=List.sublist_mergeSort o.trans o.total hp List.filter_sublist
 have hs2:=hs.filter (dd le x)
 rw[List.filter_filter]at hs2
 simp only[Bool.and_self]at hs2
 exact hs2.eq_of_length ((List.mergeSort_perm l le).symm.filter _).length_eq
theorem BF (o:Ord le) {l l':List α} (s:Sd le l') (h:ba le l l'):l'=l.mergeSort le:=by
 obtain⟨h1,h2⟩:=tM o l
 exact rG o _ _ s h1 (h.symm.trans h2)
theorem Sd.app (o:Ord le) {u v:List α} (hu:Sd le u) (hv:Sd le v) (h:∀x∈u,∀y∈v,le x y=true):Sd le (u++v):=List.pairwise_append.2 ⟨hu,hv,h⟩
theorem Sd.left {u v:List α} (h:Sd le (u++v)):Sd le u:=(List.pairwise_append.1 h).1
theorem Sd.right {u v:List α} (h:Sd le (u++v)):Sd le v:=(List.pairwise_append.1 h).2.1
theorem Sd.sO {u v:List α} (h:Sd le (u++v)):∀x∈u,∀y∈v,le x y=true:=(List.pairwise_append.1 h).2.2
theorem Sd.at_ (o:Ord le) {l:List α} (h:Sd le l) {i j:Nat} (hij:i≤j) (hj:j<l.length):le (l[i]'(by omega)) l[j]=true:=by
 by_cases e:i=j
 ·subst e;exact o.refl _
 ·exact List.pairwise_iff_getElem.1 h i j (by omega) hj (by omega)
theorem xq (o:Ord le) {l1 l2 r1 r2 m1 m2:List α} (hL:Sd le (l1++l2)) (hR:Sd le (r1++r2)) (h12:∀x∈l1,∀y∈r2,le x y=true) (h21:∀x∈l2,∀y∈r1,¬le x y=true)
  (e1:ba le (l1++r1) m1) (s1:Sd le m1) (e2:ba le (l2++r2) m2) (s2:Sd le m2):Sd le (m1++m2)∧ba le ((l1++l2)++(r1++r2)) (m1++m2):=by
 constructor
 ·refine Sd.app o s1 s2 fun x hx y hy=>?_
  rcases List.mem_append.1 (ba.mem o e1 hx)with hx|hx<;>rcases List.mem_append.1 (ba.mem o e2 hy)with hy|hy
  ·exact hL.sO x hx y hy
  ·exact h12 x hx y hy
  ·exact o.pE (h21 y hy x hx)
  ·exact hR.sO x hx y hy
 ·have h1:ba le ((l1++l2)++(r1++r2)) ((l1++r1)++(l2++r2)):=by
   rw[show(l1++l2)++(r1++r2)=l1++((l2++r1)++r2)by simp,show(l1++r1)++(l2++r2)=l1++((r1++l2)++r2)by simp]
   exact(ba.refl _).app ((ba.zF o h21).app (ba.refl _))
  exact h1.trans (e1.app e2)
end
end Wl
namespace Wl
section
variable {α:Type} {le:α→α→Bool}
theorem jF (o:Ord le):∀{l l':List α},ba le l l'→l.length=l'.length
 |[],l',h=>by rw[ba.tL o h]
 |a::l,l',h=>by
  have hm:=ba.mem o h.symm (y:=a) (List.mem_cons_self ..)
  obtain⟨u,v,hl'⟩:=List.append_of_mem hm
  have key:∃(u:List α) (b:α) (v:List α),l'=u++b::v∧(∀x∈u,dd le a x=false)∧dd le a b=true:=by
   have hne:l'.filter (dd le a)≠[]:=fun hh=>by
    have:a∈l'.filter (dd le a):=List.mem_filter.2 ⟨hm,by unfold dd;rw[o.refl];rfl⟩
    rw[hh]at this;cases this
   clear hl' u v hm h
   induction l' with
   |nil=>exact absurd rfl hne
   |cons c l' ih=>
    by_cases hc:dd le a c=true
    ·exact⟨[],c,l',rfl,by simp,hc⟩
    ·rw[List.filter_cons_of_neg hc]at hne
     obtain⟨u,b,v,e,f,g⟩:=ih hne
     refine⟨c::u,b,v,by rw[e];rfl,fun x hx=>?_,g⟩
     rcases List.mem_cons.1 hx with rfl|hx
     ·simpa using hc
     ·exact f x hx
  obtain⟨u,b,v,rfl,hu,hb⟩:=key
  have e1:dd le a a=true:=by unfold dd;rw[o.refl];rfl
  have hfa:=h a
  have hun:u.filter (dd le a)=[]:=List.filter_eq_nil_iff.2 fun x hx=>by rw[hu x hx];simp
  rw[List.filter_cons_of_pos e1,List.filter_append,hun,List.nil_append,List.filter_cons_of_pos hb]at hfa
  have hab:a=b:=by injection hfa
  subst hab
  have h2:ba le l (u++v):=fun x=>by
   have hx:=h x
   rw[List.filter_cons,List.filter_append,List.filter_cons]at hx
   rw[List.filter_append]
   by_cases hxa:dd le x a=true
   ·rw[if_pos hxa,if_pos hxa]at hx
    have hux:u.filter (dd le x)=[]:=List.filter_eq_nil_iff.2 fun y hy hxy=>by
     have:=hu y hy
     unfold dd at this hxa hxy
     simp only[Bool.and_eq_true]at hxa hxy
     rw[o.trans _ _ _ hxa.2 hxy.1,o.trans _ _ _ hxy.2 hxa.1]at this
     cases this
    rw[hux,List.nil_append]at hx⊢
    injection hx
   ·rw[if_neg hxa,if_neg hxa]at hx
    exact hx
  rw[List.length_cons,jF o h2]
  simp;omega
end
end Wl
