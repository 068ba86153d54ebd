/- Part of the proofs that the laws of this seat answer true whatever the input reads, and leave it as it was; no condition. -/
import Derived.Test.YtkciobclldnoiaaGreatPlD
import Derived.Test.YtkciobclldnoiaaGreatPlA
set_option linter.unusedVariables false
set_option linter.unusedSimpArgs false
namespace Wl
open Go
def ga (o b t:Int):Int:=(128*o+16*b+t)%4294967296
def fb (m:aC) (r:di):Bool:=gY r&&(decide (r.p=m.p)&&m.aG.any fun x=>decide (x.object=r.object)&&(decide (r.block<(x.tries.length:Int))&&decide (r.seed=ga r.object r.block (x.tries.getD r.block.toNat 0))))
def rU (a b:di):Bool:=decide (a.object<b.object∨(a.object=b.object∧(a.block<b.block∨(a.block=b.block∧a.id≤b.id))))
def ri (a b:di):Bool:=decide (a.object=b.object∧a.block=b.block∧a.id=b.id)
def oQ:di:=⟨0,0,0,(0,0,0),0,[]⟩
def rj (l:List di) (k:Nat):Bool:=decide (k=0)||!ri (l.getD k oQ) (l.getD (k-1) oQ)
def rk (l:List di):List di:=((List.range l.length).filter (rj l)).map fun i=>l.getD i oQ
def eN (m:aC) (c:List UInt8):Option di:=match dW c with|some r=>if fb m r then some r else none|none=>none
def gv (m:aC) (l:List (List UInt8)):List di:=rk ((l.filterMap (eN m)).mergeSort rU)
theorem NR:Ord rU:=⟨fun a b c h1 h2=>by
 unfold rU at*
 rw[decide_eq_true_eq]at*
 omega,fun a b=>by
 unfold rU
 rw[Bool.or_eq_true,decide_eq_true_eq,decide_eq_true_eq]
 omega⟩
theorem Hk (m:aC) (l:List (List UInt8)) (i:Nat) (hi:i<l.length):(l.take (i+1)).filterMap (eN m)=(l.take i).filterMap (eN m)++(eN m l[i]).toList:=by
 have:l.take (i+1)=l.take i++[l[i]]:=by rw[List.take_add_one,List.getElem?_eq_getElem hi];rfl
 rw[this,List.filterMap_append]
 cases hg:eN m l[i]with
 |none=>simp[hg]
 |some r=>simp[hg]
end Wl
namespace Go.Vc
open Go
section
variable {B:aq} {α:Type} {C:Ctx} {h0 h:Heap} {As:List HP} {e t k by_:Nat} {s:Sl} {f:α→List Value} {l:List α} {z:List Value}
theorem rV (z:List Value) (n:Nat):(Builtin.zeroCells z.toArray n).toList.length=n*z.length:=by
 simp[Builtin.zeroCells]
theorem BQ {z:List Value} (hz:∀v∈z,v.oneCell'=true) (n:Nat):∀v∈(Builtin.zeroCells z.toArray n).toList,v.oneCell'=true:=by
 intro v hv
 simp only[Builtin.zeroCells,Array.toList_map,List.mem_map,Array.mem_toList_iff,Array.mem_range]at hv
 obtain⟨i,hi,rfl⟩:=hv
 simp only[List.size_toArray]at hi⊢
 have h0:0<z.length:=by
  rcases Nat.eq_zero_or_pos z.length with h|h
  ·rw[h]at hi;simp at hi
  ·exact h
 have hlt:=Nat.mod_lt i h0
 rw[getElem!_pos z.toArray _ (by simpa using hlt)]
 exact hz _ (by simp)
theorem Own.tK (hC:C.Ok) (ho:Own h e s k f l) (he:bH C.topU t e k z by_) (hw:∀x,(f x).length=k) (hz:z.length=k) (hone:∀v∈z,v.oneCell'=true) (j:Nat) (hj:j≤l.length) {ty:Nat} {K:Heap→Prop}
  (hk:∀h',Own h' e ⟨s.ptr,j,s.cap⟩ k f (l.take j)→aE (fun b=>¬s.on b) h h'→K h'):
  af C.P (Builtin.clear_ #[t] ty #[.slice (if s.cap=j then s.ptr else s.ptr.map (·.add (j*k))) (s.len-j) (s.cap-j)]) h fun _ h'=>K h':=by
 have hl:=ho.len
 have hcut:=ho.cut hw j hj
 unfold Builtin.clear_
 refine af.bind (af.always (aA (he.under hC)) ?_)
 by_cases hjl:j=l.length
 ·have e0:s.len-j=0:=by omega
  rw[e0]
  generalize (if s.cap=j then s.ptr else s.ptr.map (·.add (j*k)))=q
  cases q with
  |none=>exact af.pure' (hk h hcut (aE.refl _ _))
  |some a=>exact af.pure' (hk h hcut (aE.refl _ _))
 ·rcases ho.head with⟨h1,h2,h3⟩|⟨b,rest,h1,h2,h3,h4⟩
  ·subst h3;simp at hj hjl;omega
  ·have hne:s.cap≠j:=by omega
   rw[if_neg hne,h1]
   obtain⟨m,hm⟩:∃m,s.len-j=m+1:=⟨s.len-j-1,by omega⟩
   rw[hm]
   obtain⟨i2,j2,g1,g2,g3,g4,g5,g6⟩:=he.ex
   obtain⟨zv,z1,z2⟩:=lU hC.toOk g3
   refine af.bind (af.always z1 ?_)
   have hzc:zv.cells=z.toArray:=by apply Array.ext';rw[z2,g5]
   rw[hzc]
   refine af.bind ?_
   have e1:((⟨b,0,none⟩:Addr).add (j*k))=⟨b,j*k,none⟩:=by simp[add_eq]
   show af C.P (storeCells ((⟨b,0,none⟩:Addr).add (j*k)) (Builtin.zeroCells z.toArray (m+1)).toList) h _
   rw[e1]
   have hfl:(l.drop j).length=m+1:=by simp;omega
   refine cy (e:=e) (pre:=(l.take j).flatMap f) (old:=(l.drop j).flatMap f) (post:=rest) ?_ ?_ ?_ (BQ hone _) ?_
   ·rw[←List.flatMap_append,List.take_append_drop];exact h2
   ·rw[cn hw,hfl,rV,hz]
   ·rw[cn hw,List.length_take,Nat.min_eq_left (by omega)];omega
   ·refine af.pure' (hk _ ⟨by simp;omega,.inr ⟨b,(Builtin.zeroCells z.toArray (m+1)).toList++rest,h1,?_,?_,by dsimp only;omega⟩⟩ ?_)
    ·rw[dN h2,if_pos rfl];simp
    ·rw[List.length_append,rV,hz,h3,←Nat.add_mul];dsimp only;congr 1;omega
    ·exact aE.fa h2 fun hh=>hh ⟨0,h1⟩
theorem aa.tK (hC:C.Ok) (H:aa B h0 h As) (i:Nat) (hi:As[i]?=some (ak e s k f l)) (he:bH C.topU t e k z by_) (hw:∀x,(f x).length=k) (hz:z.length=k) (hone:∀v∈z,v.oneCell'=true) (j:Nat) (hj:j≤l.length) {ty:Nat} {K:Heap→Prop}
  (hk:∀h',aa B h0 h' (As.set i (ak e ⟨s.ptr,j,s.cap⟩ k f (l.take j)))→K h'):
  af C.P (Builtin.clear_ #[t] ty #[.slice (if s.cap=j then s.ptr else s.ptr.map (·.add (j*k))) (s.len-j) (s.cap-j)]) h fun _ h'=>K h':=
 (H.own i hi).tK hC he hw hz hone j hj fun h' x y=>hk h' (H.step i hi fun q hq _=>⟨y.mono fun b _ hb hon=>hb (hq.2 b hon),x,fun b hb=>⟨x.lt hb,.inl (hq.2 b hb)⟩⟩)
end
end Go.Vc
namespace Wl
open Go
theorem CG:∀x y:List UInt8,(Op.bytesLess x y||x==y)=!Op.bytesLess y x
 |[],[]=>rfl
 |[],_::_=>rfl
 |_::_,[]=>by simp[Op.bytesLess]
 |a::x,b::y=>by
  have ih:=CG x y
  have hab:a<b∨a=b∨b<a:=by
   rcases Nat.lt_trichotomy a.toNat b.toNat with h|h|h
   ·exact .inl (UInt8.lt_iff_toNat_lt.2 h)
   ·exact .inr (.inl (UInt8.toNat_inj.1 h))
   ·exact .inr (.inr (UInt8.lt_iff_toNat_lt.2 h))
  rcases hab with h|rfl|h
  ·have h1:¬b<a:=fun h'=>by have:=UInt8.lt_iff_toNat_lt.1 h;have:=UInt8.lt_iff_toNat_lt.1 h';omega
   have h2:b≠a:=fun h'=>by subst h';exact h1 h
   simp[Op.bytesLess,h,h1,h2]
  ·have h1:¬a<a:=fun h'=>by have:=UInt8.lt_iff_toNat_lt.1 h';omega
   simp only[Op.bytesLess,h1,decide_false,Bool.false_or,beq_self_eq_true,Bool.true_and]
   rw[←ih]
   congr 1
   simp
  ·have h1:¬a<b:=fun h'=>by have:=UInt8.lt_iff_toNat_lt.1 h;have:=UInt8.lt_iff_toNat_lt.1 h';omega
   have h2:a≠b:=fun h'=>by subst h';exact h1 h
   simp[Op.bytesLess,h,h1,h2]
theorem vx:∀x y z:List UInt8,Op.bytesLess x y=true→Op.bytesLess y z=true→Op.bytesLess x z=true
 |x,[],_,h1,_=>by cases x<;>simp[Op.bytesLess]at h1
 |_,b::y,[],_,h2=>by simp[Op.bytesLess]at h2
 |[],_::_,_::_,_,_=>rfl
 |a::x,b::y,c::z,h1,h2=>by
  simp only[Op.bytesLess,Bool.or_eq_true,decide_eq_true_eq,Bool.and_eq_true,beq_iff_eq]at h1 h2⊢
  rcases h1 with h1|⟨rfl,h1⟩
  ·rcases h2 with h2|⟨rfl,h2⟩
   ·exact .inl (UInt8.lt_iff_toNat_lt.2 (by have:=UInt8.lt_iff_toNat_lt.1 h1;have:=UInt8.lt_iff_toNat_lt.1 h2;omega))
   ·exact .inl h1
  ·rcases h2 with h2|⟨rfl,h2⟩
   ·exact .inl h2
   ·exact .inr ⟨rfl,vx x y z h1 h2⟩
theorem IV (x:List UInt8):Op.bytesLess x x=false:=by
 have:=CG x x
 cases h:Op.bytesLess x x with
 |false=>rfl
 |true=>rw[h]at this;simp at this
def fY (a b:ByteArray):Bool:=!db b a
theorem yc (a b:ByteArray):fY a b=true↔db a b=true∨a.toList=b.toList:=by
 unfold fY db
 rw[←CG,Bool.or_eq_true,beq_iff_eq]
theorem tO (a b c:ByteArray) (h1:fY a b=true) (h2:fY b c=true):fY a c=true:=by
 rw[yc]at h1 h2⊢
 unfold db at*
 rcases h1 with h1|h1
 ·rcases h2 with h2|h2
  ·exact .inl (vx _ _ _ h1 h2)
  ·rw[←h2];exact .inl h1
 ·rw[h1];exact h2
theorem tQ (a b:ByteArray):(fY a b||fY b a)=true:=by
 unfold fY
 cases h:db b a with
 |false=>rfl
 |true=>
  have:db a b=false:=by
   cases h2:db a b with
   |false=>rfl
   |true=>
    have:=vx _ _ _ h h2
    rw[IV]at this;cases this
  rw[this];rfl
def lY (a b:cu):Bool:=fY a.name b.name
def dY (m:aC) (x:cu):aC:={m with seq:=m.seq+1,next:=m.next+1,aG:=(m.aG++[x]).mergeSort lY}
end Wl
namespace Wl
open Classical
theorem jc (a:UInt8):a^^^a=0:=UInt8.xor_self
theorem GC (a b:UInt8):(a^^^b)^^^b=a:=by rw[UInt8.xor_assoc,jc,UInt8.xor_zero]
theorem ck {c:UInt8} {a t:Row} (h:a.length=t.length) (j:Nat):bj (cZ c a t) j=bj t j^^^Gf.mul c (bj a j):=by
 simp only[bj,cZ,List.getD_eq_getElem?_getD,List.getElem?_zipWith]
 by_cases hj:j<a.length
 ·rw[List.getElem?_eq_getElem hj,List.getElem?_eq_getElem (by omega)];rfl
 ·rw[List.getElem?_eq_none (by omega),List.getElem?_eq_none (by omega)];simp[Gf.mul_zero]
theorem oR (c:UInt8) (a:Row) (j:Nat):bj (scaleB c a) j=Gf.mul c (bj a j):=by
 simp only[bj,scaleB,List.getD_eq_getElem?_getD,List.getElem?_map]
 cases a[j]? with
 |none=>simp[Gf.mul_zero]
 |some x=>rfl
def bR (n:Nat):Row:=List.replicate n 0
theorem fu (n j:Nat):bj (bR n) j=0:=by
 simp only[bj,bR,List.getD_eq_getElem?_getD,List.getElem?_replicate];split<;>rfl
theorem iK {n:Nat} {a b:Row} (ha:a.length=n) (hb:b.length=n) (h:∀j,j<n→bj a j=bj b j):a=b:=by
 apply List.ext_getElem (by omega)
 intro j h1 h2
 have:=h j (by omega)
 simpa[bj,List.getD_eq_getElem?_getD,List.getElem?_eq_getElem h1,List.getElem?_eq_getElem h2]using this
inductive Span (n:Nat) (m:bq):Row→Prop
 |zero:Span n m (bR n)
 |add (c:UInt8) (r v:Row):r∈m→Span n m v→Span n m (cZ c r v)
section
variable {n:Nat} {m m':bq}
theorem Span.len (hm:bf n m) {v:Row} (h:Span n m v):v.length=n:=by
 induction h with
 |zero=>simp[bR]
 |add c r v hr _ ih=>rw[bI (by rw[hm r hr,ih])];exact ih
theorem Span.comb (hm:bf n m) {u v:Row} (hu:Span n m u) (hv:Span n m v) (c:UInt8):Span n m (cZ c u v):=by
 induction hu with
 |zero=>
  have:cZ c (bR n) v=v:=iK (n:=n) (by rw[bI (by simp[bR,hv.len hm])];exact hv.len hm) (hv.len hm) fun j _=>by
   rw[ck (by simp[bR,hv.len hm]),fu,Gf.mul_zero,UInt8.xor_zero]
  rw[this];exact hv
 |add d r w hr hw ih=>
  have l1:=hv.len hm;have l2:=hw.len hm;have l3:=hm r hr
  have:cZ c (cZ d r w) v=cZ (Gf.mul c d) r (cZ c w v):=iK (n:=n) (by rw[bI (by rw[bI (by omega)];omega)];exact l1) (by rw[bI (by rw[bI (by omega)];omega),bI (by omega)];exact l1) fun j _=>by
   rw[ck (by rw[bI (by omega)];omega),ck (by omega),ck (by rw[bI (by omega)];omega),ck (by omega),Gf.ny,Gf.mul_assoc]
   ac_rfl
  rw[this];exact .add _ _ _ hr ih
theorem Span.row (hm:bf n m) {r:Row} (hr:r∈m):Span n m r:=by
 have:=Span.add 1 r _ hr (.zero (n:=n) (m:=m))
 have e:cZ 1 r (bR n)=r:=iK (n:=n) (by rw[bI (by simp[bR,hm r hr])];simp[bR]) (hm r hr) fun j _=>by
  rw[ck (by simp[bR,hm r hr]),fu,Gf.one_mul,UInt8.zero_xor]
 rwa [e]at this
theorem Span.sub (hm:bf n m) (h:∀r∈m',Span n m r) {v:Row} (hv:Span n m' v):Span n m v:=by
 induction hv with
 |zero=>exact .zero
 |add c r v hr _ ih=>exact(h r hr).comb hm ih c
theorem Span.mono (h:∀r∈m',r∈m) {v:Row} (hv:Span n m' v):Span n m v:=by
 induction hv with
 |zero=>exact .zero
 |add c r v hr _ ih=>exact .add c r v (h r hr) ih
theorem Span.MR (hm:bf n m) (φ:Row→UInt8) (h0:φ (bR n)=0) (ha:∀c a t,a.length=n→t.length=n→φ (cZ c a t)=φ t^^^Gf.mul c (φ a)) (hr:∀r∈m,φ r=0) {v:Row} (hv:Span n m v):φ v=0:=by
 induction hv with
 |zero=>exact h0
 |add c r v hr' hv ih=>rw[ha c r v (hm r hr') (hv.len hm),ih,hr r hr',Gf.mul_zero,UInt8.xor_zero]
end
def rl (S:Row→Prop) (j:Nat):Prop:=∃v,S v∧(∀i,i<j→bj v i=0)∧bj v j≠0
noncomputable def leads (S:Row→Prop) (n:Nat):Nat:=(List.range n).countP fun j=>decide (rl S j)
structure Way (n:Nat) (m:bq) (c top:Nat) (rows:bq):Prop where
 even:bf n rows
 len:rows.length=m.length
 tle:top≤rows.length
 span:∀v,Span n rows v↔Span n m v
 cnt:top=leads (Span n m) c
 piv:∃p:Nat→Nat,(∀i,i<top→p i<c)∧(∀i,i<top→∀k,k<rows.length→bj (aQ rows k) (p i)=if k=i then 1 else 0)∧(∀i,i<top→∀j,j<p i→bj (aQ rows i) j=0)∧(∀i j,i<j→j<top→p i<p j)
 low:∀k,top≤k→k<rows.length→∀j,j<c→bj (aQ rows k) j=0
theorem mem_row {m:bq} {i:Nat} (h:i<m.length):aQ m i∈m:=by rw[cO h];exact List.getElem_mem h
theorem fg {m:bq} {r:Row} (h:r∈m):∃i,i<m.length∧r=aQ m i:=by
 obtain⟨i,hi,rfl⟩:=List.getElem_of_mem h
 exact⟨i,hi,(cO hi).symm⟩
theorem zY {m:bq} {i j:Nat} {r:Row} (hi:i<m.length):aQ (m.set i r) j=if i=j then r else aQ m j:=by
 simp only[aQ,List.getD_eq_getElem?_getD,List.getElem?_set]
 by_cases h:i=j
 ·subst h;simp[hi]
 ·simp[h]
theorem nP {m:bq} {i j k:Nat} (hi:i<m.length) (hj:j<m.length):aQ (fF m i j) k=if k=j then aQ m i else if k=i then aQ m j else aQ m k:=by
 rw[fF,zY (by simpa using hj),zY hi]
 by_cases h1:j=k
 ·rw[if_pos h1,if_pos h1.symm]
 ·rw[if_neg h1,if_neg (show¬k=j from fun h=>h1 h.symm)]
  by_cases h2:i=k
  ·rw[if_pos h2,if_pos h2.symm]
  ·rw[if_neg h2,if_neg (show¬k=i from fun h=>h2 h.symm)]
theorem rm {m:bq} {t c k:Nat} (ht:t<m.length):aQ (fZ t c m) k=if t=k then scaleB (Gf.inv (bj (aQ m t) c)) (aQ m t)else aQ m k:=by
 rw[fZ,zY ht]
section
variable {n:Nat} {m:bq}
theorem IW (hm:bf n m) {i j:Nat} (hi:i<m.length) (hj:j<m.length) (v:Row):Span n (fF m i j) v↔Span n m v:=by
 refine⟨Span.mono fun r hr=>?_,Span.mono fun r hr=>?_⟩
 ·obtain⟨k,hk,rfl⟩:=fg hr
  rw[ig]at hk
  rw[nP hi hj]
  split
  ·exact mem_row hi
  ·split
   ·exact mem_row hj
   ·exact mem_row hk
 ·obtain⟨k,hk,rfl⟩:=fg hr
  have e:∀x,x<m.length→aQ (fF m i j) x∈fF m i j:=fun x hx=>mem_row (by rw[ig];exact hx)
  by_cases h1:k=i
  ·subst h1;have:=e j hj;rw[nP hi hj,if_pos rfl]at this;exact this
  ·by_cases h2:k=j
   ·subst h2;have:=e i hi;rw[nP hi hj]at this
    by_cases h3:i=k
    ·exact absurd h3.symm h1
    ·rw[if_neg h3,if_pos rfl]at this;exact this
   ·have:=e k hk;rw[nP hi hj,if_neg h2,if_neg h1]at this;exact this
theorem IX (hm:bf n m) {t c:Nat} (ht:t<m.length) (hne:bj (aQ m t) c≠0) (v:Row):Span n (fZ t c m) v↔Span n m v:=by
 have hev:=oO hm (c:=c) ht
 have hl:=cx hm ht
 have sc:∀(x:UInt8) (r:Row),r.length=n→scaleB x r=cZ x r (bR n):=fun x r hr=>iK (n:=n) (by rw[oN,hr]) (by rw[bI (by simp[bR,hr])];simp[bR]) fun j _=>by
  rw[oR,ck (by simp[bR,hr]),fu,UInt8.zero_xor]
 refine⟨Span.sub hm fun r hr=>?_,Span.sub hev fun r hr=>?_⟩
 ·obtain⟨k,hk,rfl⟩:=fg hr
  rw[j8]at hk
  rw[rm ht]
  split
  ·rw[sc _ _ hl];exact .add _ _ _ (mem_row ht) .zero
  ·exact Span.row hm (mem_row hk)
 ·obtain⟨k,hk,rfl⟩:=fg hr
  have e:∀x,x<m.length→Span n (fZ t c m) (aQ (fZ t c m) x):=fun x hx=>Span.row hev (mem_row (by rw[j8];exact hx))
  by_cases h1:t=k
  ·subst h1
   have:=e t ht
   rw[rm ht,if_pos rfl]at this
   have h2:=this.comb hev .zero (bj (aQ m t) c)
   have e3:cZ (bj (aQ m t) c) (scaleB (Gf.inv (bj (aQ m t) c)) (aQ m t)) (bR n)=aQ m t:=iK (n:=n) (by rw[bI (by simp[bR,oN,hl])];simp[bR]) hl fun j _=>by
    rw[ck (by simp[bR,oN,hl]),fu,UInt8.zero_xor,oR,←Gf.mul_assoc,Gf.zW hne,Gf.one_mul]
   rw[e3]at h2;exact h2
  ·have:=e k hk;rw[rm ht,if_neg h1]at this;exact this
theorem IY (hm:bf n m) {t c:Nat} (ht:t<m.length) (v:Row):Span n (cT t c m m.length) v↔Span n m v:=by
 have hev:=oP hm (c:=c) (k:=m.length) ht
 have hl:=cx hm ht
 refine⟨Span.sub hm fun r hr=>?_,Span.sub hev fun r hr=>?_⟩
 ·obtain⟨k,hk,rfl⟩:=fg hr
  rw[j9]at hk
  rw[lE hk]
  split
  ·exact .add _ _ _ (mem_row ht) (Span.row hm (mem_row hk))
  ·exact Span.row hm (mem_row hk)
 ·obtain⟨k,hk,rfl⟩:=fg hr
  have e:∀x,x<m.length→Span n (cT t c m m.length) (aQ (cT t c m m.length) x):=fun x hx=>Span.row hev (mem_row (by rw[j9];exact hx))
  have et:=e t ht
  rw[lE ht,if_neg (by simp)]at et
  by_cases h1:k=t
  ·subst h1;exact et
  ·have h2:=e k hk
   rw[lE hk,if_pos ⟨hk,h1⟩]at h2
   have h3:=et.comb hev h2 (bj (aQ m k) c)
   have hk':=cx hm hk
   have e3:cZ (bj (aQ m k) c) (aQ m t) (cZ (bj (aQ m k) c) (aQ m t) (aQ m k))=aQ m k:=iK (n:=n) (by rw[bI (by rw[bI (by omega)];omega),bI (by omega)];exact hk') hk' fun j _=>by
    rw[ck (by rw[bI (by omega)];omega),ck (by omega),GC]
   rw[e3]at h3;exact h3
def gG (f g:Nat→UInt8):Nat→UInt8
 |0=>0
 |k+1=>gG f g k^^^Gf.mul (f k) (g k)
theorem jd (f g:Nat→UInt8):∀k,(∀i,i<k→f i=0)→gG f g k=0
 |0,_=>rfl
 |k+1,h=>by rw[gG,jd f g k fun i hi=>h i (by omega),h k (by omega),Gf.zero_mul];rfl
theorem zZ (f g:Nat→UInt8) (x:Nat):∀k,x<k→(∀i,i<k→f i=if x=i then 1 else 0)→gG f g k=g x
 |0,hx,_=>by omega
 |k+1,hx,h=>by
  rw[gG]
  by_cases hk:x=k
  ·subst hk
   rw[jd f g x fun i hi=>by rw[h i (by omega),if_neg (by omega)],h x (by omega),if_pos rfl,Gf.one_mul,UInt8.zero_xor]
  ·rw[zZ f g x k (by omega) fun i hi=>h i (by omega),h k (by omega),if_neg hk,Gf.zero_mul,UInt8.xor_zero]
theorem z6 (f1 f2 g:Nat→UInt8) (c:UInt8):∀k,gG (fun i=>f1 i^^^Gf.mul c (f2 i)) g k=gG f1 g k^^^Gf.mul c (gG f2 g k)
 |0=>by simp[gG,Gf.mul_zero]
 |k+1=>by
  rw[gG,gG,gG,z6 f1 f2 g c k,Gf.ny,Gf.Gy,Gf.mul_assoc]
  ac_rfl
theorem yd (S:Row→Prop) (c:Nat):leads S (c+1)=leads S c+if rl S c then 1 else 0:=by
 simp only[leads,List.range_succ,List.countP_append,List.countP_cons,List.countP_nil]
 by_cases h:rl S c<;>simp[h]
theorem IZ (hm:bf n m):Way n m 0 0 m:=⟨hm,rfl,by omega,fun _=>Iff.rfl,by simp[leads],⟨fun _=>0,fun i hi=>by omega,fun i hi=>by omega,fun i hi=>by omega,fun i j _ hj=>by omega⟩,fun k _ _ j hj=>by omega⟩
theorem Kq (hm:bf n m) {c top:Nat} {rows:bq} (w:Way n m c top rows) (hc:c<n):Way n m (c+1) (fG (top,rows) c).1 (fG (top,rows) c).2:=by
 obtain⟨hev,hlen,htl,hsp,hcnt,⟨p,p1,p2,p3,p4⟩,hlow⟩:=w
 have hS:∀v,Span n rows v↔Span n m v:=hsp
 have hSeq:Span n rows=Span n m:=funext fun v=>propext (hS v)
 unfold fG
 dsimp only
 cases hb:fl rows top c with
 |none=>
  have hno:=E2 hb
  dsimp only
  have hnl:¬rl (Span n m) c:=by
   rw[←hSeq]
   rintro⟨v,hv,hz,hne⟩
   apply hne
   have hφ:=Span.MR hev (fun v=>bj v c^^^gG (fun i=>bj v (p i)) (fun i=>bj (aQ rows i) c) top) (by
     simp only[fu];rw[jd _ _ _ fun i _=>rfl];rfl) (fun x a t ha ht=>by
     simp only[ck (show a.length=t.length by omega)]
     rw[z6,Gf.ny];ac_rfl) (fun r hr=>by
     obtain⟨k,hk,rfl⟩:=fg hr
     by_cases hkt:k<top
     ·rw[zZ _ _ k top hkt fun i hi=>by rw[p2 i hi k hk]];exact jc _
     ·rw[hno k (by omega) hk,jd _ _ _ fun i hi=>by rw[p2 i hi k hk,if_neg (by omega)]];rfl) hv
   rw[jd _ _ _ fun i hi=>hz _ (p1 i hi),UInt8.xor_zero]at hφ
   exact hφ
  refine⟨hev,hlen,htl,hsp,by rw[yd,if_neg hnl,hcnt];rfl,⟨p,fun i hi=>by have:=p1 i hi;omega,p2,p3,p4⟩,fun k hk1 hk2 j hj=>?_⟩
  rcases Nat.lt_succ_iff_lt_or_eq.1 hj with h|rfl
  ·exact hlow k hk1 hk2 j h
  ·exact hno k hk1 hk2
 |some at_=>
  have hh:=lX hb
  obtain⟨h1,h2,h3⟩:=hh
  dsimp only
  have htt:top<rows.length:=by omega
  obtain⟨r1,hr1⟩:∃r1,r1=fF rows top at_:=⟨_,rfl⟩
  have l1:r1.length=rows.length:=by rw[hr1,ig]
  have ev1:bf n r1:=by rw[hr1];exact tC hev htt h2
  have q1:∀k,aQ r1 k=if k=at_ then aQ rows top else if k=top then aQ rows at_ else aQ rows k:=fun k=>by rw[hr1,nP htt h2]
  have q1t:aQ r1 top=aQ rows at_:=by
   rw[q1]
   by_cases h:top=at_
   ·rw[if_pos h,h]
   ·rw[if_neg h,if_pos rfl]
  have hne1:bj (aQ r1 top) c≠0:=by rw[q1t];exact h3
  obtain⟨r2,hr2⟩:∃r2,r2=fZ top c r1:=⟨_,rfl⟩
  have l2:r2.length=rows.length:=by rw[hr2,j8,l1]
  have ev2:bf n r2:=by rw[hr2];exact oO ev1 (by omega)
  have q2:∀k,aQ r2 k=if top=k then scaleB (Gf.inv (bj (aQ r1 top) c)) (aQ r1 top)else aQ r1 k:=fun k=>by rw[hr2,rm (by omega)]
  have hz2:∀j,bj (aQ r1 top) j=0→bj (aQ r2 top) j=0:=fun j hj=>by rw[q2,if_pos rfl,oR,hj,Gf.mul_zero]
  have hone:bj (aQ r2 top) c=1:=by rw[q2,if_pos rfl,oR,Gf.mul_comm,Gf.zW hne1]
  obtain⟨r3,hr3⟩:∃r3,r3=cT top c r2 rows.length:=⟨_,rfl⟩
  have l3:r3.length=rows.length:=by rw[hr3,j9,l2]
  have q3:∀k,k<rows.length→∀j,bj (aQ r3 k) j=if k=top then bj (aQ r2 top) j else bj (aQ r1 k) j^^^Gf.mul (bj (aQ r1 k) c) (bj (aQ r2 top) j):=fun k hk j=>by
   rw[hr3,lE (by omega)]
   by_cases h:k=top
   ·rw[if_neg (by omega),if_pos h,h]
   ·have e:=q2 k
    rw[if_neg (fun hh=>h hh.symm)]at e
    rw[if_pos ⟨hk,h⟩,if_neg h,ck (by rw[cx ev2 (by omega),cx ev2 (by omega)]),e]
  have low1:∀j,j<c→bj (aQ r2 top) j=0:=fun j hj=>hz2 j (by rw[q1t];exact hlow at_ h1 h2 j hj)
  have keep:∀k,k<rows.length→∀j,j<c→bj (aQ r3 k) j=if k=top then 0 else bj (aQ r1 k) j:=fun k hk j hj=>by
   rw[q3 k hk,low1 j hj,Gf.mul_zero,UInt8.xor_zero]
  have old1:∀k,k<top→aQ r1 k=aQ rows k:=fun k hk=>by rw[q1,if_neg (by omega),if_neg (by omega)]
  have zer1:∀k,top≤k→k<rows.length→∀j,j<c→bj (aQ r1 k) j=0:=fun k hk1 hk2 j hj=>by
   rw[q1]
   split
   ·exact hlow top (Nat.le_refl _) htt j hj
   ·split
    ·exact hlow at_ h1 h2 j hj
    ·exact hlow k hk1 hk2 j hj
  have hspan:∀v,Span n r3 v↔Span n m v:=fun v=>by
   rw[hr3,show rows.length=r2.length by omega,IY ev2 (by omega),hr2,IX ev1 (by omega) hne1,hr1,IW hev htt h2,hS]
  have hlead:rl (Span n m) c:=⟨aQ r3 top,(hspan _).1 (Span.row (by rw[hr3];exact oP ev2 (by omega)) (mem_row (by omega))),fun j hj=>by rw[keep top htt j hj,if_pos rfl],by rw[q3 top htt,if_pos rfl,hone];decide⟩
  have hr3':cT top c (fZ top c (fF rows top at_)) rows.length=r3:=by rw[hr3,hr2,hr1]
  rw[hr3']
  refine⟨by rw[hr3];exact oP ev2 (by omega),by omega,by omega,hspan,by rw[yd,if_pos hlead,hcnt],⟨fun i=>if i<top then p i else c,fun i hi=>?_,fun i hi k hk=>?_,fun i hi j hj=>?_,fun i j hij hj=>?_⟩,fun k hk1 hk2 j hj=>?_⟩
  ·dsimp only;split
   ·have:=p1 i (by assumption);omega
   ·omega
  ·dsimp only
   by_cases hit:i<top
   ·rw[if_pos hit,keep k (by omega) _ (p1 i hit)]
    by_cases hkt:k<top
    ·rw[if_neg (by omega),old1 k hkt];exact p2 i hit k (by omega)
    ·rw[if_neg (show¬k=i by omega)]
     split
     ·rfl
     ·exact zer1 k (by omega) (by omega) _ (p1 i hit)
   ·have hie:i=top:=by omega
    subst hie
    rw[if_neg hit,q3 k (by omega)]
    by_cases hki:k=i
    ·rw[if_pos hki,if_pos hki];exact hone
    ·rw[if_neg hki,if_neg hki,hone,Gf.mul_one];exact jc _
  ·dsimp only at hj
   by_cases hit:i<top
   ·rw[if_pos hit]at hj
    have:=p1 i hit
    rw[keep i (by omega) j (by omega),if_neg (by omega),old1 i hit]
    exact p3 i hit j hj
   ·have hie:i=top:=by omega
    subst hie
    rw[if_neg hit]at hj
    rw[keep i (by omega) j hj,if_pos rfl]
  ·dsimp only
   rw[if_pos (show i<top by omega)]
   split
   ·exact p4 i j hij (by assumption)
   ·exact p1 i (by omega)
  ·rcases Nat.lt_succ_iff_lt_or_eq.1 hj with h|rfl
   ·rw[keep k (by omega) j h,if_neg (by omega)];exact zer1 k (by omega) (by omega) j h
   ·rw[q3 k (by omega),if_neg (by omega),hone,Gf.mul_one];exact jc _
theorem z7 (hm:bf n m):∀c,c≤n→Way n m c (bu m c).1 (bu m c).2
 |0,_=>IZ hm
 |c+1,h=>by rw[bu];exact Kq hm (z7 hm c (by omega)) (by omega)
theorem kD:∀c,bu [] c=(0,[])
 |0=>rfl
 |c+1=>by rw[bu,kD c];rfl
theorem nf (hm:bf n m):dX m=leads (Span n m) n:=by
 rw[←(z7 hm n (Nat.le_refl _)).cnt,dX]
 cases m with
 |nil=>rw[kD,kD]
 |cons x t=>rw[fW,cO (by simp)];rw[show((x::t)[0]).length=n from hm _ (by simp)]
end
section
variable {n:Nat} {m m':bq}
theorem Hl {S S':Row→Prop} (h:∀v,S v→S' v) (n:Nat):leads S n≤leads S' n:=by
 refine List.countP_mono_left fun j _ hj=>?_
 simp only[decide_eq_true_eq]at hj⊢
 obtain⟨v,h1,h2⟩:=hj
 exact⟨v,h v h1,h2⟩
theorem I0 (hm:bf n m) (hm':bf n m') (h:∀r∈m,r∈m'):dX m≤dX m':=by
 rw[nf hm,nf hm'];exact Hl (fun v=>Span.mono h) n
theorem I1 {P Q:Nat→Bool} (l:List Nat) (hd:l.Nodup) (h1:∀a∈l,P a=true→Q a=true) (h2:∀a∈l,∀b∈l,Q a=true→P a=false→Q b=true→P b=false→a=b):l.countP Q≤l.countP P+1:=by
 induction l with
 |nil=>simp
 |cons x t ih=>
  rw[List.nodup_cons]at hd
  have ih':=ih hd.2 (fun a ha=>h1 a (by simp[ha])) (fun a ha b hb=>h2 a (by simp[ha]) b (by simp[hb]))
  simp only[List.countP_cons]
  cases hQ:Q x with
  |false=>
   have:(if P x=true then 1 else 0)≥0:=by omega
   simp;omega
  |true=>
   cases hP:P x with
   |true=>simp;omega
   |false=>
    have:t.countP Q≤t.countP P:=by
     refine List.countP_mono_left fun a ha hq=>?_
     cases hpa:P a with
     |true=>rfl
     |false=>
      have:=h2 x (by simp) a (by simp[ha]) hQ hP hq hpa
      subst this
      exact absurd ha hd.1
    simp;omega
theorem Bd (hm:bf n m) {r:Row} (hr:r.length=n) {v:Row} (hv:Span n (m++[r]) v):∃(c:UInt8) (u:Row),Span n m u∧v=cZ c r u:=by
 have hev:bf n (m++[r]):=fun x hx=>by
  rcases List.mem_append.1 hx with h|h
  ·exact hm x h
  ·rw[List.mem_singleton.1 h];exact hr
 induction hv with
 |zero=>exact⟨0,bR n,.zero,(iK (n:=n) (by rw[bI (by simp[bR,hr])];simp[bR]) (by simp[bR]) fun j _=>by rw[ck (by simp[bR,hr]),fu,Gf.zero_mul];rfl).symm⟩
 |add d x w hx hw ih=>
  obtain⟨c,u,hu,rfl⟩:=ih
  have hul:=hu.len hm
  rcases List.mem_append.1 hx with h|h
  ·have hxl:=hm x h
   refine⟨c,cZ d x u,.add d x u h hu,iK (n:=n) (by rw[bI (by rw[bI (by omega)];omega),bI (by omega)];exact hul) (by rw[bI (by rw[bI (by omega)];omega),bI (by omega)];exact hul) fun j _=>?_⟩
   rw[ck (by rw[bI (by omega)];omega),ck (by omega),ck (by rw[bI (by omega)];omega),ck (by omega)]
   ac_rfl
  ·have hxr:=List.mem_singleton.1 h
   subst hxr
   refine⟨c^^^d,u,hu,iK (n:=n) (by rw[bI (by rw[bI (by omega)];omega),bI (by omega)];exact hul) (by rw[bI (by omega)];exact hul) fun j _=>?_⟩
   rw[ck (by rw[bI (by omega)];omega),ck (by omega),ck (by omega),Gf.Gy]
   ac_rfl
theorem I2 (hm:bf n m) {r:Row} (hr:r.length=n):bf n (m++[r]):=fun x hx=>by
 rcases List.mem_append.1 hx with h|h
 ·exact hm x h
 ·rw[List.mem_singleton.1 h];exact hr
theorem I3 (hm:bf n m) {r:Row} (hr:r.length=n):dX m≤dX (m++[r])∧dX (m++[r])≤dX m+1:=by
 have hev:=I2 hm hr
 refine⟨I0 hm hev fun x hx=>by simp[hx],?_⟩
 rw[nf hm,nf hev]
 refine I1 _ List.nodup_range (fun a _ ha=>?_) (fun a _ b _ qa pa qb pb=>?_)
 ·simp only[decide_eq_true_eq]at ha⊢
  obtain⟨v,h1,h2⟩:=ha
  exact⟨v,Span.mono (fun x hx=>by simp[hx]) h1,h2⟩
 ·simp only[decide_eq_true_eq,decide_eq_false_iff_not]at qa pa qb pb
  have key:∀a b,rl (Span n (m++[r])) a→¬rl (Span n m) a→rl (Span n (m++[r])) b→¬rl (Span n m) b→¬a<b:=by
   rintro a b ⟨v,hv,hz,hne⟩ pa ⟨w,hw,hzw,hnw⟩ pb hab
   obtain⟨c,u,hu,rfl⟩:=Bd hm hr hv
   obtain⟨d,u',hu',rfl⟩:=Bd hm hr hw
   have l1:=hu.len hm;have l2:=hu'.len hm
   have hd:d≠0:=by
    rintro rfl
    apply pb
    refine⟨u',hu',fun i hi=>?_,?_⟩
    ·have:=hzw i hi;rw[ck (by omega),Gf.zero_mul,UInt8.xor_zero]at this;exact this
    ·rw[ck (by omega),Gf.zero_mul,UInt8.xor_zero]at hnw;exact hnw
   apply pa
   refine⟨cZ (Gf.mul c (Gf.inv d)) u' u,hu'.comb hm hu _,?_⟩
   have hval:∀j,bj (cZ (Gf.mul c (Gf.inv d)) u' u) j=bj (cZ c r u) j^^^Gf.mul (Gf.mul c (Gf.inv d)) (bj (cZ d r u') j):=fun j=>by
    rw[ck (by omega),ck (by omega),ck (by omega),Gf.ny,←Gf.mul_assoc (Gf.mul c (Gf.inv d)) d,Gf.mul_assoc c (Gf.inv d) d,Gf.mul_comm (Gf.inv d) d,Gf.zW hd,Gf.mul_one]
    have:∀x y z:UInt8,x^^^y=x^^^z^^^(y^^^z):=fun x y z=>by
     have:x^^^z^^^(y^^^z)=x^^^y^^^(z^^^z):=by ac_rfl
     rw[this,jc,UInt8.xor_zero]
    exact this _ _ _
   refine⟨fun i hi=>?_,?_⟩
   ·rw[hval,hz i hi,hzw i (by omega),Gf.mul_zero];rfl
   ·rw[hval,hzw a hab,Gf.mul_zero,UInt8.xor_zero];exact hne
  have h1:=key a b qa pa qb pb
  have h2:=key b a qb pb qa pa
  omega
theorem tR (m:bq) (h:bf n m):dX m≤m.length:=by
 have key:∀k,k≤m.length→dX (m.take k)≤k:=by
  intro k
  induction k with
  |zero=>intro _;simp[dX,fW,aQ,bu]
  |succ k ih=>
   intro hk
   have ht:bf n (m.take k):=fun x hx=>h x (List.mem_of_mem_take hx)
   have h1:=ih (by omega)
   rw[List.take_succ_eq_append_getElem (by omega)]
   have h2:=(I3 ht (h _ (List.getElem_mem (show k<m.length by omega)))).2
   omega
 have:=key m.length (Nat.le_refl _)
 rwa [List.take_of_length_le (Nat.le_refl _)]at this
end
end Wl
namespace Wl
open Go
def Hm (p:Int×Int×Int) (seed:Int) (ids:List Int):Nat:=dX (fV p seed ids)
def kE (p:Int×Int×Int) (seed:Int) (ids:List Int):Bool:=bO p&&((Hm p seed ids:Int)==cK p)
def dJ (p:Int×Int×Int):List Int:=upto (max 0 (min p.1 16)).toNat
theorem Dl {p:Int×Int×Int} (h:bO p=true):cK p=p.1+p.2.1:=by rw[cK,if_pos h]
theorem Be (p:Int×Int×Int) (seed:Int) (ids:List Int):bf (cK p).toNat (fV p seed ids):=by
 intro r hr
 unfold fV at hr
 split at hr
 ·rename_i hp
  have:=(bP p).1 hp
  rcases List.mem_append.1 hr with h|h
  ·obtain⟨x,_,rfl⟩:=List.mem_map.1 h
   rw[De,Dl hp];omega
  ·obtain⟨x,_,rfl⟩:=List.mem_map.1 h
   exact Kn _ _ _
 ·cases hr
theorem Kr (p:Int×Int×Int) (seed:Int) (ids:List Int):(fV p seed ids).length≤4+ids.length:=by
 unfold fV
 split
 ·rename_i hp
  have:=(bP p).1 hp
  have h1:=List.length_filter_le bZ ids
  simp only[List.length_append,cH,List.length_map,List.length_range]
  omega
 ·simp
end Wl
namespace Wl
def dp (a b:bq):bq:=List.zipWith (·++·) a b
def gH (n:Nat) (m:bq):bq:=m.map (List.take n)
theorem w4 {r:Row} {n j:Nat} (h:j<n):bj (r.take n) j=bj r j:=by
 simp only[bj,List.getD_eq_getElem?_getD,List.getElem?_take];rw[if_pos h]
theorem Ks (r:Row) (n j:Nat):bj (r.drop n) j=bj r (n+j):=by
 simp only[bj,List.getD_eq_getElem?_getD,List.getElem?_drop]
theorem nA (n:Nat) (m:bq) (i:Nat):aQ (gH n m) i=(aQ m i).take n:=by
 simp only[aQ,gH,List.getD_eq_getElem?_getD,List.getElem?_map]
 cases m[i]? with
 |none=>simp
 |some r=>rfl
theorem z8 (n:Nat) (m:bq):(gH n m).length=m.length:=by simp[gH]
theorem Hn {n top bm:Nat} (m:bq) (h:bm<n):fl (gH n m) top bm=fl m top bm:=by
 unfold fl
 rw[z8]
 congr 1
 funext i
 rw[nA,w4 h]
theorem Aa (n:Nat) (m:bq) (i:Nat) (r:Row):gH n (m.set i r)=(gH n m).set i (r.take n):=by simp[gH,List.map_set]
theorem Kt (n:Nat) (m:bq) (i j:Nat):gH n (fF m i j)=fF (gH n m) i j:=by
 rw[fF,Aa,Aa,fF,nA,nA]
theorem I4 (n:Nat) (c:UInt8) (r:Row):(scaleB c r).take n=scaleB c (r.take n):=by simp[scaleB,List.map_take]
theorem L5 (n:Nat) (c:UInt8) (a t:Row):(cZ c a t).take n=cZ c (a.take n) (t.take n):=by simp[cZ,List.take_zipWith]
theorem Ku {n bm:Nat} (h:bm<n) (t:Nat) (m:bq):gH n (fZ t bm m)=fZ t bm (gH n m):=by
 rw[fZ,Aa,I4,fZ,nA,w4 h]
theorem Kv {n bm:Nat} (h:bm<n) (t k:Nat) (m:bq):gH n (cT t bm m k)=cT t bm (gH n m) k:=by
 apply List.ext_getElem?
 intro i
 simp only[gH,cT,List.getElem?_map,List.getElem?_mapIdx]
 cases m[i]? with
 |none=>rfl
 |some r=>
  simp only[Option.map_some]
  congr 1
  have:=nA n m t
  rw[gH]at this
  rw[this,w4 h]
  split
  ·exact L5 _ _ _ _
  ·rfl
theorem Kw {n bm:Nat} (h:bm<n) (s:Nat×bq):((fG s bm).1,gH n (fG s bm).2)=fG (s.1,gH n s.2) bm:=by
 unfold fG
 dsimp only
 rw[Hn _ h]
 cases fl s.2 s.1 bm with
 |none=>rfl
 |some i=>dsimp only;rw[Kv h,Ku h,Kt,z8]
theorem ye (n:Nat) (m:bq):∀c,c≤n→((bu m c).1,gH n (bu m c).2)=bu (gH n m) c
 |0,_=>rfl
 |c+1,h=>by
  have ih:=ye n m c (by omega)
  rw[bu,bu,Kw (show c<n by omega),ih]
theorem js {a b:bq} (h:a.length=b.length):(dp a b).length=a.length:=by simp[dp,h]
theorem vy {a b:bq} (h:a.length=b.length) {i:Nat} (hi:i<a.length):aQ (dp a b) i=aQ a i++aQ b i:=by
 rw[cO (by rw[js h];exact hi),cO hi,cO (by omega)];simp[dp]
theorem lG {n w:Nat} {a b:bq} (h:a.length=b.length) (ha:bf n a) (hb:bf w b):bf (n+w) (dp a b):=fun r hr=>by
 obtain⟨i,hi,rfl⟩:=fg hr
 rw[js h]at hi
 rw[vy h hi,List.length_append,cx ha hi,cx hb (by omega)]
theorem L6 {n:Nat} {a b:bq} (h:a.length=b.length) (ha:bf n a):gH n (dp a b)=a:=by
 apply List.ext_getElem (by rw[z8,js h])
 intro i h1 h2
 have:=nA n (dp a b) i
 rw[cO h1,vy h h2,List.take_left' (cx ha h2),cO h2]at this
 exact this
theorem Kx {n:Nat} {a:bq} (ha:bf n a):(bu a n).1=dX a:=by
 rw[dX]
 cases a with
 |nil=>rw[kD,kD]
 |cons x t=>rw[fW,cO (by simp)];rw[show((x::t)[0]).length=n from ha _ (by simp)]
theorem Dm {n:Nat} {a b:bq} (h:a.length=b.length) (ha:bf n a):(bu (dp a b) n).1=dX a:=by
 have:=congrArg Prod.fst (ye n (dp a b) n (Nat.le_refl _))
 rw[L6 h ha]at this
 rw[←Kx ha];exact this
def rn (w:Nat) (r:Row) (X:bq):Nat→Row
 |0=>bR w
 |k+1=>cZ (bj r k) (aQ X k) (rn w r X k)
theorem w5 {n w:Nat} {X:bq} (hX:bf w X) (hl:X.length=n) (r:Row):∀k,k≤n→(rn w r X k).length=w
 |0,_=>by simp[rn,bR]
 |k+1,h=>by
  have ih:=w5 hX hl r k (by omega)
  rw[rn,bI (by rw[cx hX (by omega),ih])];exact ih
theorem w6 {n w:Nat} {X:bq} (hX:bf w X) (hl:X.length=n) (r:Row) (j:Nat):∀k,k≤n→bj (rn w r X k) j=gG (fun i=>bj r i) (fun i=>bj (aQ X i) j) k
 |0,_=>by rw[rn,fu];rfl
 |k+1,h=>by
  have ih:=w6 hX hl r j k (by omega)
  rw[rn,ck (by rw[cx hX (by omega),w5 hX hl r k (by omega)]),ih];rfl
def tU (n w:Nat) (a b X:bq):Prop:=X.length=n∧bf w X∧∀i,i<a.length→rn w (aQ a i) X n=aQ b i
def nQ (n:Nat) (X:bq) (k:Nat) (v:Row):UInt8:=bj v (n+k)^^^gG (fun i=>bj v i) (fun i=>bj (aQ X i) k) n
theorem ng {f f' g g':Nat→UInt8}:∀k,(∀i,i<k→f i=f' i)→(∀i,i<k→g i=g' i)→gG f g k=gG f' g' k
 |0,_,_=>rfl
 |k+1,h1,h2=>by rw[gG,gG,ng k (fun i hi=>h1 i (by omega)) (fun i hi=>h2 i (by omega)),h1 k (by omega),h2 k (by omega)]
theorem GD (n:Nat) (X:bq) (k:Nat) (c:UInt8) (a t:Row) (h:a.length=t.length):nQ n X k (cZ c a t)=nQ n X k t^^^Gf.mul c (nQ n X k a):=by
 unfold nQ
 rw[ck h]
 have:gG (fun i=>bj (cZ c a t) i) (fun i=>bj (aQ X i) k) n=gG (fun i=>bj t i^^^Gf.mul c (bj a i)) (fun i=>bj (aQ X i) k) n:=ng n (fun i _=>ck h i) fun _ _=>rfl
 rw[this,z6,Gf.ny];ac_rfl
theorem GF {a b:Row} {n:Nat} (ha:a.length=n) (k:Nat):bj (a++b) (n+k)=bj b k:=by
 simp only[bj,List.getD_eq_getElem?_getD]
 rw[List.getElem?_append_right (by omega),ha,Nat.add_sub_cancel_left]
theorem Dn {a b:Row} {n j:Nat} (ha:a.length=n) (hj:j<n):bj (a++b) j=bj a j:=by
 simp only[bj,List.getD_eq_getElem?_getD]
 rw[List.getElem?_append_left (by omega)]
theorem tV {a b:UInt8}:a^^^b=0↔a=b:=by
 constructor
 ·intro h
  have:=congrArg (·^^^b) h
  simp only[UInt8.zero_xor]at this
  rwa [GC]at this
 ·rintro rfl;exact jc _
theorem Ho {n w:Nat} {a b X:bq} (h:a.length=b.length) (ha:bf n a) (hb:bf w b) (hl:X.length=n) (hX:bf w X):tU n w a b X↔∀k,k<w→∀v,Span (n+w) (dp a b) v→nQ n X k v=0:=by
 have hev:=lG h ha hb
 constructor
 ·intro hs k hk v hv
  refine Span.MR hev (nQ n X k) ?_ (fun c a t h1 h2=>GD n X k c a t (by omega)) (fun r hr=>?_) hv
  ·unfold nQ
   rw[fu,jd _ _ n fun i _=>fu _ _];rfl
  ·obtain⟨i,hi,rfl⟩:=fg hr
   rw[js h]at hi
   rw[vy h hi]
   unfold nQ
   rw[GF (cx ha hi),←hs.2.2 i hi,w6 hX hl _ k n (Nat.le_refl _),tV]
   exact ng n (fun j hj=>(Dn (cx ha hi) hj).symm) fun _ _=>rfl
 ·intro hp
  refine⟨hl,hX,fun i hi=>iK (n:=w) (w5 hX hl _ n (Nat.le_refl _)) (cx hb (by omega)) fun k hk=>?_⟩
  have:=hp k hk _ (Span.row hev (mem_row (show i<(dp a b).length by rw[js h];exact hi)))
  rw[vy h hi]at this
  unfold nQ at this
  rw[GF (cx ha hi),tV]at this
  rw[this,w6 hX hl _ k n (Nat.le_refl _)]
  exact ng n (fun j hj=>(Dn (cx ha hi) hj).symm) fun _ _=>rfl
theorem MS {n:Nat} {p:Nat→Nat} (h1:∀i,i<n→p i<n) (h2:∀i j,i<j→j<n→p i<p j):∀i,i<n→p i=i:=by
 have lo:∀i,i<n→i≤p i:=by
  intro i
  induction i with
  |zero=>intro _;omega
  |succ i ih=>intro hi;have:=ih (by omega);have:=h2 i (i+1) (by omega) hi;omega
 have up:∀k i,i+k+1=n→p i≤i:=by
  intro k
  induction k with
  |zero=>intro i hi;have:=h1 i (by omega);omega
  |succ k ih=>intro i hi;have:=ih (i+1) (by omega);have:=h2 i (i+1) (by omega) (by omega);omega
 intro i hi
 have:=lo i hi
 have:=up (n-1-i) i (by omega)
 omega
def je (n:Nat) (a b:bq):bq:=(((bu (dp a b) n).2).take n).map (List.drop n)
def LB (n:Nat) (a b:bq):Prop:=∀r∈((bu (dp a b) n).2).drop n,r=bR r.length
section
variable {n w:Nat} {a b:bq}
theorem Ab (h:a.length=b.length) (ha:bf n a) (hb:bf w b) (hr:dX a=n):(je n a b).length=n∧bf w (je n a b):=by
 have hev:=lG h ha hb
 have h2:=gF hev n
 have h3:=tR a ha
 refine⟨by rw[je,List.length_map,List.length_take,h2.2,js h];omega,fun r hr'=>?_⟩
 obtain⟨x,hx,rfl⟩:=List.mem_map.1 hr'
 rw[List.length_drop,h2.1 x (List.mem_of_mem_take hx)];omega
theorem L7 (h:a.length=b.length) (ha:bf n a) (hr:dX a=n) {i:Nat} (hi:i<n):aQ (je n a b) i=(aQ (bu (dp a b) n).2 i).drop n:=by
 simp only[aQ,je,List.getD_eq_getElem?_getD,List.getElem?_map,List.getElem?_take]
 rw[if_pos hi]
 cases(bu (dp a b) n).2[i]? with
 |none=>simp
 |some r=>rfl
theorem Ky (h:a.length=b.length) (ha:bf n a) (hb:bf w b) (hr:dX a=n):
  (∀v,Span (n+w) (bu (dp a b) n).2 v↔Span (n+w) (dp a b) v)∧(bu (dp a b) n).2.length=a.length∧(∀i,i<n→∀k,k<a.length→bj (aQ (bu (dp a b) n).2 k) i=if k=i then 1 else 0):=by
 have hev:=lG h ha hb
 have W:=z7 hev n (by omega)
 have ht:(bu (dp a b) n).1=n:=by rw[Dm h ha,hr]
 obtain⟨p,p1,p2,p3,p4⟩:=W.piv
 rw[ht]at p1 p2 p3 p4
 have hid:=MS p1 p4
 have hl:(bu (dp a b) n).2.length=a.length:=by rw[W.len,js h]
 refine⟨W.span,hl,fun i hi k hk=>?_⟩
 have:=p2 i hi k (by omega)
 rwa [hid i hi]at this
theorem Kz {X:bq} {r:Row} {i k:Nat} (hi:i<n) (hr:∀j,j<n→bj r j=if i=j then 1 else 0):nQ n X k r=bj r (n+k)^^^bj (aQ X i) k:=by
 unfold nQ
 rw[zZ _ _ i n hi fun j hj=>hr j hj]
theorem L8 {X:bq} {r:Row} {k:Nat} (hr:∀j,j<n→bj r j=0):nQ n X k r=bj r (n+k):=by
 unfold nQ
 rw[jd _ _ n hr,UInt8.xor_zero]
theorem Hp (h:a.length=b.length) (ha:bf n a) (hb:bf w b) (hr:dX a=n) (hc:LB n a b):tU n w a b (je n a b):=by
 have hev:=lG h ha hb
 have h2:=gF hev n
 obtain⟨hsp,hl,hd⟩:=Ky h ha hb hr
 have hle:=tR a ha
 obtain⟨s1,s2⟩:=Ab h ha hb hr
 refine(Ho h ha hb s1 s2).2 fun k hk v hv=>?_
 refine Span.MR h2.1 (nQ n (je n a b) k) ?_ (fun c x t h1 h2=>GD n _ k c x t (by omega)) (fun r hr'=>?_) ((hsp v).2 hv)
 ·unfold nQ
  rw[fu,jd _ _ n fun i _=>fu _ _];rfl
 ·obtain⟨i,hi,rfl⟩:=fg hr'
  by_cases hin:i<n
  ·rw[Kz hin fun j hj=>hd j hj i (by omega),L7 h ha hr hin,Ks];exact jc _
  ·rw[L8 fun j hj=>by rw[hd j hj i (by omega),if_neg (by omega)]]
   have:aQ (bu (dp a b) n).2 i∈(bu (dp a b) n).2.drop n:=by
    rw[cO hi]
    obtain⟨d,rfl⟩:∃d,i=n+d:=⟨i-n,by omega⟩
    rw[←List.getElem_drop (h:=by rw[List.length_drop];omega)]
    exact List.getElem_mem _
   rw[hc _ this,fu]
theorem E4 (h:a.length=b.length) (ha:bf n a) (hb:bf w b) (hn:a.length=n):LB n a b:=by
 have hev:=lG h ha hb
 have h2:=gF hev n
 intro r hr
 rw[List.drop_of_length_le (by rw[h2.2,js h];omega)]at hr
 cases hr
end
end Wl
namespace Wl
def jG (w:Nat) (X:bq) (l:List Int):Row:=l.foldl (fun s c=>cZ 1 (aQ X c.toNat) s) (bR w)
theorem Dp (w:Nat) (X:bq) (l:List Int) (c:Int):jG w X (l++[c])=cZ 1 (aQ X c.toNat) (jG w X l):=by rw[jG,List.foldl_append];rfl
theorem tW {n w:Nat} {X:bq} (hX:bf w X) (hl:X.length=n) {l:List Int} (hin:∀x∈l,0≤x∧x<(n:Int)):∀k,k≤l.length→(jG w X (l.take k)).length=w:=by
 intro k
 induction k with
 |zero=>intro _;simp[jG,bR]
 |succ k ih=>
  intro hk
  have hx:=hin _ (List.getElem_mem (show k<l.length by omega))
  rw[List.take_succ_eq_append_getElem (by omega),Dp,bI (by rw[cx hX (by omega),ih (by omega)])]
  exact ih (by omega)
theorem L9 {n w:Nat} {X:bq} (hX:bf w X) (hl:X.length=n) {l:List Int} (hin:∀x∈l,0≤x∧x<(n:Int)):(jG w X l).length=w:=by
 have:=tW hX hl hin l.length (Nat.le_refl _)
 rwa [List.take_of_length_le (Nat.le_refl _)]at this
end Wl
namespace Wl
open Go Go.Vc
def dK (K H w:Nat) (d:Row):bq:=List.replicate H (bR w)++(List.range K).map (Iy d w)
def iv (p:Int×Int×Int) (seed:Int) (d:Row):bq:=je (cK p).toNat (fV p seed (dJ p)) (dK p.1.toNat p.2.1.toNat p.2.2.toNat d)
structure bS (p:Int×Int×Int) (seed:Int) (d:Row) (K H w n:Nat):Prop where
 may:bO p=true
 full:kE p seed (dJ p)=true
 k:p.1=K
 h:p.2.1=H
 s:p.2.2=w
 n:n=K+H
 k1:1≤K
 k2:K≤16
 h1:1≤H
 h2:H≤4
 w1:1≤w
 w2:w≤24
 len:d.length=K*w
theorem LC {p:Int×Int×Int} {seed:Int} {d:Row} (hm:bO p=true) (hf:kE p seed (dJ p)=true) (hl:(d.length:Int)=p.1*p.2.2):∃K H w n,bS p seed d K H w n:=by
 have:=(bP p).1 hm
 refine⟨p.1.toNat,p.2.1.toNat,p.2.2.toNat,p.1.toNat+p.2.1.toNat,hm,hf,by omega,by omega,by omega,rfl,by omega,by omega,by omega,by omega,by omega,by omega,?_⟩
 have e1:p.1=(p.1.toNat:Int):=by omega
 have e2:p.2.2=(p.2.2.toNat:Int):=by omega
 rw[e1,e2,←Int.natCast_mul]at hl
 exact Int.ofNat.inj hl
section
variable {p:Int×Int×Int} {seed:Int} {d:Row} {K H w n:Nat}
theorem bS.nR (B:bS p seed d K H w n):cK p=n:=by rw[Dl B.may,B.k,B.h,B.n];rfl
theorem bS.vz (B:bS p seed d K H w n):(cK p).toNat=n:=by rw[B.nR];rfl
theorem Hq (hK:p.1=(K:Int)) (h:K≤16):dJ p=upto K:=by
 rw[dJ];congr 1;omega
theorem E5 (h:K≤16):(upto K).filter bZ=upto K:=by
 rw[List.filter_eq_self]
 intro x hx
 simp[upto]at hx
 obtain⟨a,ha,rfl⟩:=hx
 simp[bZ];omega
theorem bS.Gv (B:bS p seed d K H w n):fV p seed (dJ p)=cH K H++(List.range K).map fun i:Nat=>zX n seed (i:Int):=by
 rw[fV,if_pos B.may,Hq B.k B.k2,E5 B.k2,B.k,B.h,B.vz,Int.toNat_natCast,Int.toNat_natCast,upto,List.map_map]
 rfl
theorem bS.yf (B:bS p seed d K H w n):(fV p seed (dJ p)).length=n:=by
 rw[B.Gv,List.length_append,List.length_map,List.length_range,cH,List.length_map,List.length_range,B.n];omega
theorem bS.vA (B:bS p seed d K H w n):bf n (fV p seed (dJ p)):=by
 have:=Be p seed (dJ p)
 rwa [B.vz]at this
theorem bS.KA (B:bS p seed d K H w n):dX (fV p seed (dJ p))=n:=by
 have h:=B.full
 rw[kE,B.may,B.nR,Hm]at h
 simp at h
 exact Int.ofNat.inj h
theorem tZ (K H w:Nat) (d:Row):(dK K H w d).length=K+H:=by simp[dK];omega
theorem nh (hl:d.length=K*w):bf w (dK K H w d):=fun r hr=>by
 rcases List.mem_append.1 hr with h|h
 ·rw[(List.mem_replicate.1 h).2];simp[bR]
 ·obtain⟨i,hi,rfl⟩:=List.mem_map.1 h
  rw[List.mem_range]at hi
  exact LY (by rw[hl];exact Nat.mul_le_mul_right w hi)
theorem I5 {i:Nat} (hi:i<H):aQ (dK K H w d) i=bR w:=by
 rw[aQ,dK,List.getD_eq_getElem?_getD,List.getElem?_append_left (by simpa using hi)];simp[hi]
theorem bS.rW (B:bS p seed d K H w n):iv p seed d=je n (fV p seed (dJ p)) (dK K H w d):=by
 rw[iv,B.vz,B.k,B.h,B.s];rfl
theorem bS.lens (B:bS p seed d K H w n):(fV p seed (dJ p)).length=(dK K H w d).length:=by rw[B.yf,tZ,B.n]
theorem bS.yg (B:bS p seed d K H w n):(iv p seed d).length=n∧bf w (iv p seed d):=by
 rw[B.rW];exact Ab B.lens B.vA (nh B.len) B.KA
theorem bS.tU (B:bS p seed d K H w n):tU n w (fV p seed (dJ p)) (dK K H w d) (iv p seed d):=by
 rw[B.rW]
 exact Hp B.lens B.vA (nh B.len) B.KA (E4 B.lens B.vA (nh B.len) B.yf)
theorem bS.MT (B:bS p seed d K H w n) {i:Nat} (hi:i<H):aQ (fV p seed (dJ p)) i=ja K H i:=by
 rw[B.Gv,aQ,List.getD_eq_getElem?_getD,List.getElem?_append_left (by simpa[cH]using hi)];simp[cH,hi]
theorem bS.low (B:bS p seed d K H w n) {i:Nat} (hi:i<H):rn w (ja K H i) (iv p seed d) n=bR w:=by
 have:=B.tU.2.2 i (by rw[B.yf,B.n];omega)
 rwa [B.MT hi,I5 hi]at this
theorem bS.n1 (B:bS p seed d K H w n):1≤n:=by have:=B.n;have:=B.k1;omega
theorem bS.n2 (B:bS p seed d K H w n):n≤20:=by have:=B.n;have:=B.k2;have:=B.h2;omega
theorem bS.MU (B:bS p seed d K H w n) (id:Int):(jG w (iv p seed d) (ir n seed id)).length=w:=
 L9 B.yg.2 B.yg.1 fun _ hx=>tz B.n1 B.n2 hx
end
end Wl
namespace Go.Vc
open Go
theorem E6 {α:Type} {e2 k:Nat} {f:α→List Value}:∀{rs:List Sl} {ll:List (List α)} (rs':List Sl) (ll':List (List α)),rs.length=ll.length→bx e2 k f (rs++rs') (ll++ll')=bx e2 k f rs ll++bx e2 k f rs' ll':=by
 intro rs ll rs' ll' h
 unfold bx
 exact List.zipWith_append h
theorem aa.KB {B:aq} {h0 h:Heap} {X:HP}:∀{L M:List HP},aa B h0 h (L++X::M)→aa B h0 h (L++M):=fun{L M} H=>by
 have:=H.del L.length
 rwa [List.eraseIdx_append_of_length_le (Nat.le_refl _),Nat.sub_self,List.eraseIdx_cons_zero]at this
section
variable {α:Type} {C:Ctx} {B:aq} {h0 h h':Heap} {As:List HP} {e e2 k t t2 by_:Nat} {s s2:Sl} {f:α→List Value} {ll l2:List (List α)}
theorem aa.Ma (hC:C.Ok) (H:aa B h0 h (iS e s e2 k f ll::iS e s2 e2 k f l2::As)) (he:bH C.topU t e 1 [.slice none 0 0] 24) (h2:∃i e2,C.T.get t2=some i∧i.bQ=.slice e2) (hsz:ll.length+l2.length≤2^32) {ty:Nat} {K:Sl→Heap→Prop}
  (hk:∀s' h',aa B h0 h' (iS e s' e2 k f (ll++l2)::As)→K s' h'):
  av C.P (Builtin.append_ #[t,t2] ty #[.slice s.ptr s.len s.cap,.slice s2.ptr s2.len s2.cap]) (.one (.sc .slc)) h K:=by
 obtain⟨rs,hl,H1⟩:=H.xU
 obtain⟨L1,hL1⟩:∃L1,L1=bx e2 k f rs ll:=⟨_,rfl⟩
 rw[←hL1]at H1
 have H2:aa B h0 h (iS e s2 e2 k f l2::(As++(ak e s 1 cm rs::L1))):=H1.front
 obtain⟨rs2,hl2,H3⟩:=H2.xU
 obtain⟨L2,hL2⟩:∃L2,L2=bx e2 k f rs2 l2:=⟨_,rfl⟩
 rw[←hL2]at H3
 have H4:=H3.front
 rw[List.append_assoc]at H4
 have H5:=H4.front
 have H6:aa B h0 h (ak e s 1 cm rs::(L1++(ak e s2 1 cm rs2::(L2++As)))):=by
  have e0:(ak e s 1 cm rs::L1++(ak e s2 1 cm rs2::L2))++As=ak e s 1 cm rs::(L1++(ak e s2 1 cm rs2::(L2++As))):=by simp
  rw[←e0];exact H5
 have hv:Seq h (fun b=>b<h.size) s2 1 cm rs2:=H6.seq (L1.length+1) (by rw[List.getElem?_cons_succ,List.getElem?_append_right (Nat.le_refl _),Nat.sub_self];rfl) fun _=>rfl
 refine H6.append hC 0 rfl he h2 rfl (by decide) (fun _=>rfl) hv nI (by omega) fun s' h' H7=>hk s' h' ?_
 have H7:aa B h0 h' ((ak e s' 1 cm (rs++rs2)::L1)++(ak e s2 1 cm rs2::(L2++As))):=H7
 have H8:=aa.KB H7
 refine aa.C7 (rs:=rs++rs2) (by simp[hl,hl2]) ?_
 rw[E6 rs2 l2 hl,←hL1,←hL2]
 have e1:(ak e s' 1 cm (rs++rs2)::(L1++L2))++As=(ak e s' 1 cm (rs++rs2)::L1)++(L2++As):=by simp
 rw[e1];exact H8
end
end Go.Vc
namespace Go.Vc
open Go
abbrev dZ:=FloatKind.format .f64
theorem ua {P:Program} {a b c:Nat} (h:dZ.add a b=some c):ar P (Op.Complex.arith .add .f64 a b) c:=fun w=>by
 have h':(FloatKind.format .f64).add a b=some c:=h
 unfold Op.Complex.arith Op.floatArith
 simp only[h']
 rfl
theorem ub {P:Program} {a b c:Nat} (h:dZ.sub a b=some c):ar P (Op.Complex.arith .sub .f64 a b) c:=fun w=>by
 have h':(FloatKind.format .f64).sub a b=some c:=h
 unfold Op.Complex.arith Op.floatArith
 simp only[h']
 rfl
theorem oS {P:Program} {a b c:Nat} (h:dZ.mul a b=some c):ar P (Op.Complex.arith .mul .f64 a b) c:=fun w=>by
 have h':(FloatKind.format .f64).mul a b=some c:=h
 unfold Op.Complex.arith Op.floatArith
 simp only[h']
 rfl
theorem px {P:Program} {op:BinOp} (h:op=.add∨op=.sub∨op=.mul) (t:TypeId) (x y:Operand) (a b:Value):ar P (eqGuard op t x y a b) ():=fun w=>by
 rcases h with rfl|rfl|rfl<;>rfl
theorem Mb {P:Program} {t:TypeId} {x y:Operand} {a b c d e f:Nat} (h1:dZ.add a c=some e) (h2:dZ.add b d=some f):iD P .add t x y (.complex .f64 a b) (.complex .f64 c d) (.complex .f64 e f):=
 (px (.inl rfl) t x y _ _).bind (show ar P (Op.complexOp .add .f64 a b c d) _ from(ua h1).bind ((ua h2).bind fun _=>rfl))
theorem Mc {P:Program} {t:TypeId} {x y:Operand} {a b c d e f:Nat} (h1:dZ.sub a c=some e) (h2:dZ.sub b d=some f):iD P .sub t x y (.complex .f64 a b) (.complex .f64 c d) (.complex .f64 e f):=
 (px (.inr (.inl rfl)) t x y _ _).bind (show ar P (Op.complexOp .sub .f64 a b c d) _ from(ub h1).bind ((ub h2).bind fun _=>rfl))
theorem Md {P:Program} {t:TypeId} {x y:Operand} {a b c d e f m1 m2 m3 m4:Nat} (h1:dZ.mul a c=some m1) (h2:dZ.mul b d=some m2) (h3:dZ.sub m1 m2=some e) (h4:dZ.mul a d=some m3) (h5:dZ.mul b c=some m4) (h6:dZ.add m3 m4=some f):
  iD P .mul t x y (.complex .f64 a b) (.complex .f64 c d) (.complex .f64 e f):=by
 refine(px (.inr (.inr rfl)) t x y _ _).bind ?_
 have hp:ar P (Op.Complex.product a b c d) (e,f):=
  (oS h1).bind ((oS h2).bind ((ub h3).bind ((oS h4).bind ((oS h5).bind ((ua h6).bind fun _=>rfl)))))
 show ar P (Op.complexOp .mul .f64 a b c d) _
 have hc:∀x,ar P (Op.Complex.conv .f64 x .f64) x:=fun x w=>by unfold Op.Complex.conv;rw[if_pos rfl];rfl
 unfold Op.complexOp
 refine(hc a).bind ((hc b).bind ((hc c).bind ((hc d).bind ?_)))
 refine ar.bind (v:=(e,f)) ?_ ?_
 ·exact hp
 ·exact(hc e).bind ((hc f).bind fun _=>rfl)
end Go.Vc
