/- Part of the proofs that the laws of this seat answer true whatever the input reads, and leave it as it was; no condition. -/
import Derived.Test.YtdoiokchdaoonaaGreatPlD
import Derived.Test.YtdoiokchdaoonaaGreatPlA
set_option linter.unusedVariables false
set_option linter.unusedSimpArgs false
namespace Wl
open Go
def fj (o b t:Int):Int:=(128*o+16*b+t)%4294967296
def dE (m:aE) (r:dc):Bool:=gS r&&(decide (r.p=m.p)&&m.objs.any fun x=>decide (x.object=r.object)&&(decide (r.block<(x.tries.length:Int))&&decide (r.seed=fj r.object r.block (x.tries.getD r.block.toNat 0))))
def rD (a b:dc):Bool:=decide (a.object<b.object∨(a.object=b.object∧(a.block<b.block∨(a.block=b.block∧a.id≤b.id))))
def qS (a b:dc):Bool:=decide (a.object=b.object∧a.block=b.block∧a.id=b.id)
def oA:dc:=⟨0,0,0,(0,0,0),0,[]⟩
def qT (l:List dc) (k:Nat):Bool:=decide (k=0)||!qS (l.getD k oA) (l.getD (k-1) oA)
def o0 (l:List dc):List dc:=((List.range l.length).filter (qT l)).map fun i=>l.getD i oA
def eF (m:aE) (c:List UInt8):Option dc:=match dQ c with|some r=>if dE m r then some r else none|none=>none
def fE (m:aE) (l:List (List UInt8)):List dc:=o0 ((l.filterMap (eF m)).mergeSort rD)
theorem Nk:Ord rD:=⟨fun a b c h1 h2=>by
 unfold rD at*
 rw[decide_eq_true_eq]at*
 omega,fun a b=>by
 unfold rD
 rw[Bool.or_eq_true,decide_eq_true_eq,decide_eq_true_eq]
 omega⟩
theorem Gs (m:aE) (l:List (List UInt8)) (i:Nat) (hi:i<l.length):(l.take (i+1)).filterMap (eF m)=(l.take i).filterMap (eF m)++(eF m l[i]).toList:=by
 have:l.take (i+1)=l.take i++[l[i]]:=by rw[List.take_add_one,List.getElem?_eq_getElem hi];rfl
 rw[this,List.filterMap_append]
 cases hg:eF m l[i]with
 |none=>simp[hg]
 |some r=>simp[hg]
end Wl
namespace Go.Vc
open Go
section
variable {B:aq} {α:Type} {C:Ctx} {h0 h:Heap} {As:List HP} {e t k by_:Nat} {s:Sl} {f:α→List Value} {l:List α} {z:List Value}
theorem rE (z:List Value) (n:Nat):(Builtin.zeroCells z.toArray n).toList.length=n*z.length:=by
 simp[Builtin.zeroCells]
theorem Bb {z:List Value} (hz:∀v∈z,v.oneCell'=true) (n:Nat):∀v∈(Builtin.zeroCells z.toArray n).toList,v.oneCell'=true:=by
 intro v hv
 simp only[Builtin.zeroCells,Array.toList_map,List.mem_map,Array.mem_toList_iff,Array.mem_range]at hv
 obtain⟨i,hi,rfl⟩:=hv
 simp only[List.size_toArray]at hi⊢
 have h0:0<z.length:=by
  rcases Nat.eq_zero_or_pos z.length with h|h
  ·rw[h]at hi;simp at hi
  ·exact h
 have hlt:=Nat.mod_lt i h0
 rw[getElem!_pos z.toArray _ (by simpa using hlt)]
 exact hz _ (by simp)
theorem Own.tm (hC:C.Ok) (ho:Own h e s k f l) (he:bB C.topA t e k z by_) (hw:∀x,(f x).length=k) (hz:z.length=k) (hone:∀v∈z,v.oneCell'=true) (j:Nat) (hj:j≤l.length) {ty:Nat} {K:Heap→Prop}
  (hk:∀h',Own h' e ⟨s.ptr,j,s.cap⟩ k f (l.take j)→aD (fun b=>¬s.on b) h h'→K h'):
  ae C.P (Builtin.clear_ #[t] ty #[.slice (if s.cap=j then s.ptr else s.ptr.map (·.add (j*k))) (s.len-j) (s.cap-j)]) h fun _ h'=>K h':=by
 have hl:=ho.len
 have hcut:=ho.cut hw j hj
 unfold Builtin.clear_
 refine ae.bind (ae.always (az (he.under hC)) ?_)
 by_cases hjl:j=l.length
 ·have e0:s.len-j=0:=by omega
  rw[e0]
  generalize (if s.cap=j then s.ptr else s.ptr.map (·.add (j*k)))=q
  cases q with
  |none=>exact ae.pure' (hk h hcut (aD.refl _ _))
  |some a=>exact ae.pure' (hk h hcut (aD.refl _ _))
 ·rcases ho.head with⟨h1,h2,h3⟩|⟨b,rest,h1,h2,h3,h4⟩
  ·subst h3;simp at hj hjl;omega
  ·have hne:s.cap≠j:=by omega
   rw[if_neg hne,h1]
   obtain⟨m,hm⟩:∃m,s.len-j=m+1:=⟨s.len-j-1,by omega⟩
   rw[hm]
   obtain⟨i2,j2,g1,g2,g3,g4,g5,g6⟩:=he.ex
   obtain⟨zv,z1,z2⟩:=lE hC.toOk g3
   refine ae.bind (ae.always z1 ?_)
   have hzc:zv.cells=z.toArray:=by apply Array.ext';rw[z2,g5]
   rw[hzc]
   refine ae.bind ?_
   have e1:((⟨b,0,none⟩:Addr).add (j*k))=⟨b,j*k,none⟩:=by simp[add_eq]
   show ae C.P (storeCells ((⟨b,0,none⟩:Addr).add (j*k)) (Builtin.zeroCells z.toArray (m+1)).toList) h _
   rw[e1]
   have hfl:(l.drop j).length=m+1:=by simp;omega
   refine cv (e:=e) (pre:=(l.take j).flatMap f) (old:=(l.drop j).flatMap f) (post:=rest) ?_ ?_ ?_ (Bb hone _) ?_
   ·rw[←List.flatMap_append,List.take_append_drop];exact h2
   ·rw[ca hw,hfl,rE,hz]
   ·rw[ca hw,List.length_take,Nat.min_eq_left (by omega)];omega
   ·refine ae.pure' (hk _ ⟨by simp;omega,.inr ⟨b,(Builtin.zeroCells z.toArray (m+1)).toList++rest,h1,?_,?_,by dsimp only;omega⟩⟩ ?_)
    ·rw[dJ h2,if_pos rfl];simp
    ·rw[List.length_append,rE,hz,h3,←Nat.add_mul];dsimp only;congr 1;omega
    ·exact aD.eT h2 fun hh=>hh ⟨0,h1⟩
theorem aa.tm (hC:C.Ok) (H:aa B h0 h As) (i:Nat) (hi:As[i]?=some (ak e s k f l)) (he:bB C.topA t e k z by_) (hw:∀x,(f x).length=k) (hz:z.length=k) (hone:∀v∈z,v.oneCell'=true) (j:Nat) (hj:j≤l.length) {ty:Nat} {K:Heap→Prop}
  (hk:∀h',aa B h0 h' (As.set i (ak e ⟨s.ptr,j,s.cap⟩ k f (l.take j)))→K h'):
  ae C.P (Builtin.clear_ #[t] ty #[.slice (if s.cap=j then s.ptr else s.ptr.map (·.add (j*k))) (s.len-j) (s.cap-j)]) h fun _ h'=>K h':=
 (H.own i hi).tm hC he hw hz hone j hj fun h' x y=>hk h' (H.step i hi fun q hq _=>⟨y.mono fun b _ hb hon=>hb (hq.2 b hon),x,fun b hb=>⟨x.lt hb,.inl (hq.2 b hb)⟩⟩)
end
end Go.Vc
namespace Wl
open Go
theorem B0:∀x y:List UInt8,(Op.bytesLess x y||x==y)=!Op.bytesLess y x
 |[],[]=>rfl
 |[],_::_=>rfl
 |_::_,[]=>by simp[Op.bytesLess]
 |a::x,b::y=>by
  have ih:=B0 x y
  have hab:a<b∨a=b∨b<a:=by
   rcases Nat.lt_trichotomy a.toNat b.toNat with h|h|h
   ·exact .inl (UInt8.lt_iff_toNat_lt.2 h)
   ·exact .inr (.inl (UInt8.toNat_inj.1 h))
   ·exact .inr (.inr (UInt8.lt_iff_toNat_lt.2 h))
  rcases hab with h|rfl|h
  ·have h1:¬b<a:=fun h'=>by have:=UInt8.lt_iff_toNat_lt.1 h;have:=UInt8.lt_iff_toNat_lt.1 h';omega
   have h2:b≠a:=fun h'=>by subst h';exact h1 h
   simp[Op.bytesLess,h,h1,h2]
  ·have h1:¬a<a:=fun h'=>by have:=UInt8.lt_iff_toNat_lt.1 h';omega
   simp only[Op.bytesLess,h1,decide_false,Bool.false_or,beq_self_eq_true,Bool.true_and]
   rw[←ih]
   congr 1
   simp
  ·have h1:¬a<b:=fun h'=>by have:=UInt8.lt_iff_toNat_lt.1 h;have:=UInt8.lt_iff_toNat_lt.1 h';omega
   have h2:a≠b:=fun h'=>by subst h';exact h1 h
   simp[Op.bytesLess,h,h1,h2]
theorem vb:∀x y z:List UInt8,Op.bytesLess x y=true→Op.bytesLess y z=true→Op.bytesLess x z=true
 |x,[],_,h1,_=>by cases x<;>simp[Op.bytesLess]at h1
 |_,b::y,[],_,h2=>by simp[Op.bytesLess]at h2
 |[],_::_,_::_,_,_=>rfl
 |a::x,b::y,c::z,h1,h2=>by
  simp only[Op.bytesLess,Bool.or_eq_true,decide_eq_true_eq,Bool.and_eq_true,beq_iff_eq]at h1 h2⊢
  rcases h1 with h1|⟨rfl,h1⟩
  ·rcases h2 with h2|⟨rfl,h2⟩
   ·exact .inl (UInt8.lt_iff_toNat_lt.2 (by have:=UInt8.lt_iff_toNat_lt.1 h1;have:=UInt8.lt_iff_toNat_lt.1 h2;omega))
   ·exact .inl h1
  ·rcases h2 with h2|⟨rfl,h2⟩
   ·exact .inl h2
   ·exact .inr ⟨rfl,vb x y z h1 h2⟩
theorem Ic (x:List UInt8):Op.bytesLess x x=false:=by
 have:=B0 x x
 cases h:Op.bytesLess x x with
 |false=>rfl
 |true=>rw[h]at this;simp at this
def fV (a b:ByteArray):Bool:=!db b a
theorem xE (a b:ByteArray):fV a b=true↔db a b=true∨a.toList=b.toList:=by
 unfold fV db
 rw[←B0,Bool.or_eq_true,beq_iff_eq]
theorem tn (a b c:ByteArray) (h1:fV a b=true) (h2:fV b c=true):fV a c=true:=by
 rw[xE]at h1 h2⊢
 unfold db at*
 rcases h1 with h1|h1
 ·rcases h2 with h2|h2
  ·exact .inl (vb _ _ _ h1 h2)
  ·rw[←h2];exact .inl h1
 ·rw[h1];exact h2
theorem tq (a b:ByteArray):(fV a b||fV b a)=true:=by
 unfold fV
 cases h:db b a with
 |false=>rfl
 |true=>
  have:db a b=false:=by
   cases h2:db a b with
   |false=>rfl
   |true=>
    have:=vb _ _ _ h h2
    rw[Ic]at this;cases this
  rw[this];rfl
def lJ (a b:ck):Bool:=fV a.name b.name
def dS (m:aE) (x:ck):aE:={m with seq:=m.seq+1,next:=m.next+1,objs:=(m.objs++[x]).mergeSort lJ}
end Wl
namespace Wl
open Classical
theorem iW (a:UInt8):a^^^a=0:=UInt8.xor_self
theorem FB (a b:UInt8):(a^^^b)^^^b=a:=by rw[UInt8.xor_assoc,iW,UInt8.xor_zero]
theorem bZ {c:UInt8} {a t:Row} (h:a.length=t.length) (j:Nat):bf (cY c a t) j=bf t j^^^Gf.mul c (bf a j):=by
 simp only[bf,cY,List.getD_eq_getElem?_getD,List.getElem?_zipWith]
 by_cases hj:j<a.length
 ·rw[List.getElem?_eq_getElem hj,List.getElem?_eq_getElem (by omega)];rfl
 ·rw[List.getElem?_eq_none (by omega),List.getElem?_eq_none (by omega)];simp[Gf.mul_zero]
theorem oB (c:UInt8) (a:Row) (j:Nat):bf (scaleB c a) j=Gf.mul c (bf a j):=by
 simp only[bf,scaleB,List.getD_eq_getElem?_getD,List.getElem?_map]
 cases a[j]? with
 |none=>simp[Gf.mul_zero]
 |some x=>rfl
def bM (n:Nat):Row:=List.replicate n 0
theorem ft (n j:Nat):bf (bM n) j=0:=by
 simp only[bf,bM,List.getD_eq_getElem?_getD,List.getElem?_replicate];split<;>rfl
theorem iF {n:Nat} {a b:Row} (ha:a.length=n) (hb:b.length=n) (h:∀j,j<n→bf a j=bf b j):a=b:=by
 apply List.ext_getElem (by omega)
 intro j h1 h2
 have:=h j (by omega)
 simpa[bf,List.getD_eq_getElem?_getD,List.getElem?_eq_getElem h1,List.getElem?_eq_getElem h2]using this
inductive Span (n:Nat) (m:bm):Row→Prop
 |zero:Span n m (bM n)
 |add (c:UInt8) (r v:Row):r∈m→Span n m v→Span n m (cY c r v)
section
variable {n:Nat} {m m':bm}
theorem Span.len (hm:aZ n m) {v:Row} (h:Span n m v):v.length=n:=by
 induction h with
 |zero=>simp[bM]
 |add c r v hr _ ih=>rw[bC (by rw[hm r hr,ih])];exact ih
theorem Span.comb (hm:aZ n m) {u v:Row} (hu:Span n m u) (hv:Span n m v) (c:UInt8):Span n m (cY c u v):=by
 induction hu with
 |zero=>
  have:cY c (bM n) v=v:=iF (n:=n) (by rw[bC (by simp[bM,hv.len hm])];exact hv.len hm) (hv.len hm) fun j _=>by
   rw[bZ (by simp[bM,hv.len hm]),ft,Gf.mul_zero,UInt8.xor_zero]
  rw[this];exact hv
 |add d r w hr hw ih=>
  have l1:=hv.len hm;have l2:=hw.len hm;have l3:=hm r hr
  have:cY c (cY d r w) v=cY (Gf.mul c d) r (cY c w v):=iF (n:=n) (by rw[bC (by rw[bC (by omega)];omega)];exact l1) (by rw[bC (by rw[bC (by omega)];omega),bC (by omega)];exact l1) fun j _=>by
   rw[bZ (by rw[bC (by omega)];omega),bZ (by omega),bZ (by rw[bC (by omega)];omega),bZ (by omega),Gf.mW,Gf.mul_assoc]
   ac_rfl
  rw[this];exact .add _ _ _ hr ih
theorem Span.row (hm:aZ n m) {r:Row} (hr:r∈m):Span n m r:=by
 have:=Span.add 1 r _ hr (.zero (n:=n) (m:=m))
 have e:cY 1 r (bM n)=r:=iF (n:=n) (by rw[bC (by simp[bM,hm r hr])];simp[bM]) (hm r hr) fun j _=>by
  rw[bZ (by simp[bM,hm r hr]),ft,Gf.one_mul,UInt8.zero_xor]
 rwa [e]at this
theorem Span.sub (hm:aZ n m) (h:∀r∈m',Span n m r) {v:Row} (hv:Span n m' v):Span n m v:=by
 induction hv with
 |zero=>exact .zero
 |add c r v hr _ ih=>exact(h r hr).comb hm ih c
theorem Span.mono (h:∀r∈m',r∈m) {v:Row} (hv:Span n m' v):Span n m v:=by
 induction hv with
 |zero=>exact .zero
 |add c r v hr _ ih=>exact .add c r v (h r hr) ih
theorem Span.Mh (hm:aZ n m) (φ:Row→UInt8) (h0:φ (bM n)=0) (ha:∀c a t,a.length=n→t.length=n→φ (cY c a t)=φ t^^^Gf.mul c (φ a)) (hr:∀r∈m,φ r=0) {v:Row} (hv:Span n m v):φ v=0:=by
 induction hv with
 |zero=>exact h0
 |add c r v hr' hv ih=>rw[ha c r v (hm r hr') (hv.len hm),ih,hr r hr',Gf.mul_zero,UInt8.xor_zero]
end
def qU (S:Row→Prop) (j:Nat):Prop:=∃v,S v∧(∀i,i<j→bf v i=0)∧bf v j≠0
noncomputable def leads (S:Row→Prop) (n:Nat):Nat:=(List.range n).countP fun j=>decide (qU S j)
structure Way (n:Nat) (m:bm) (c top:Nat) (rows:bm):Prop where
 even:aZ n rows
 len:rows.length=m.length
 tle:top≤rows.length
 span:∀v,Span n rows v↔Span n m v
 cnt:top=leads (Span n m) c
 piv:∃p:Nat→Nat,(∀i,i<top→p i<c)∧(∀i,i<top→∀k,k<rows.length→bf (aN rows k) (p i)=if k=i then 1 else 0)∧(∀i,i<top→∀j,j<p i→bf (aN rows i) j=0)∧(∀i j,i<j→j<top→p i<p j)
 low:∀k,top≤k→k<rows.length→∀j,j<c→bf (aN rows k) j=0
theorem mem_row {m:bm} {i:Nat} (h:i<m.length):aN m i∈m:=by rw[cO h];exact List.getElem_mem h
theorem eZ {m:bm} {r:Row} (h:r∈m):∃i,i<m.length∧r=aN m i:=by
 obtain⟨i,hi,rfl⟩:=List.getElem_of_mem h
 exact⟨i,hi,(cO hi).symm⟩
theorem zo {m:bm} {i j:Nat} {r:Row} (hi:i<m.length):aN (m.set i r) j=if i=j then r else aN m j:=by
 simp only[aN,List.getD_eq_getElem?_getD,List.getElem?_set]
 by_cases h:i=j
 ·subst h;simp[hi]
 ·simp[h]
theorem nt {m:bm} {i j k:Nat} (hi:i<m.length) (hj:j<m.length):aN (fB m i j) k=if k=j then aN m i else if k=i then aN m j else aN m k:=by
 rw[fB,zo (by simpa using hj),zo hi]
 by_cases h1:j=k
 ·rw[if_pos h1,if_pos h1.symm]
 ·rw[if_neg h1,if_neg (show¬k=j from fun h=>h1 h.symm)]
  by_cases h2:i=k
  ·rw[if_pos h2,if_pos h2.symm]
  ·rw[if_neg h2,if_neg (show¬k=i from fun h=>h2 h.symm)]
theorem qV {m:bm} {t c k:Nat} (ht:t<m.length):aN (fY t c m) k=if t=k then scaleB (Gf.inv (bf (aN m t) c)) (aN m t)else aN m k:=by
 rw[fY,zo ht]
section
variable {n:Nat} {m:bm}
theorem Ie (hm:aZ n m) {i j:Nat} (hi:i<m.length) (hj:j<m.length) (v:Row):Span n (fB m i j) v↔Span n m v:=by
 refine⟨Span.mono fun r hr=>?_,Span.mono fun r hr=>?_⟩
 ·obtain⟨k,hk,rfl⟩:=eZ hr
  rw[hG]at hk
  rw[nt hi hj]
  split
  ·exact mem_row hi
  ·split
   ·exact mem_row hj
   ·exact mem_row hk
 ·obtain⟨k,hk,rfl⟩:=eZ hr
  have e:∀x,x<m.length→aN (fB m i j) x∈fB m i j:=fun x hx=>mem_row (by rw[hG];exact hx)
  by_cases h1:k=i
  ·subst h1;have:=e j hj;rw[nt hi hj,if_pos rfl]at this;exact this
  ·by_cases h2:k=j
   ·subst h2;have:=e i hi;rw[nt hi hj]at this
    by_cases h3:i=k
    ·exact absurd h3.symm h1
    ·rw[if_neg h3,if_pos rfl]at this;exact this
   ·have:=e k hk;rw[nt hi hj,if_neg h2,if_neg h1]at this;exact this
theorem Ig (hm:aZ n m) {t c:Nat} (ht:t<m.length) (hne:bf (aN m t) c≠0) (v:Row):Span n (fY t c m) v↔Span n m v:=by
 have hev:=oy hm (c:=c) ht
 have hl:=cu hm ht
 have sc:∀(x:UInt8) (r:Row),r.length=n→scaleB x r=cY x r (bM n):=fun x r hr=>iF (n:=n) (by rw[ox,hr]) (by rw[bC (by simp[bM,hr])];simp[bM]) fun j _=>by
  rw[oB,bZ (by simp[bM,hr]),ft,UInt8.zero_xor]
 refine⟨Span.sub hm fun r hr=>?_,Span.sub hev fun r hr=>?_⟩
 ·obtain⟨k,hk,rfl⟩:=eZ hr
  rw[j1]at hk
  rw[qV ht]
  split
  ·rw[sc _ _ hl];exact .add _ _ _ (mem_row ht) .zero
  ·exact Span.row hm (mem_row hk)
 ·obtain⟨k,hk,rfl⟩:=eZ hr
  have e:∀x,x<m.length→Span n (fY t c m) (aN (fY t c m) x):=fun x hx=>Span.row hev (mem_row (by rw[j1];exact hx))
  by_cases h1:t=k
  ·subst h1
   have:=e t ht
   rw[qV ht,if_pos rfl]at this
   have h2:=this.comb hev .zero (bf (aN m t) c)
   have e3:cY (bf (aN m t) c) (scaleB (Gf.inv (bf (aN m t) c)) (aN m t)) (bM n)=aN m t:=iF (n:=n) (by rw[bC (by simp[bM,ox,hl])];simp[bM]) hl fun j _=>by
    rw[bZ (by simp[bM,ox,hl]),ft,UInt8.zero_xor,oB,←Gf.mul_assoc,Gf.zm hne,Gf.one_mul]
   rw[e3]at h2;exact h2
  ·have:=e k hk;rw[qV ht,if_neg h1]at this;exact this
theorem Ih (hm:aZ n m) {t c:Nat} (ht:t<m.length) (v:Row):Span n (cS t c m m.length) v↔Span n m v:=by
 have hev:=oz hm (c:=c) (k:=m.length) ht
 have hl:=cu hm ht
 refine⟨Span.sub hm fun r hr=>?_,Span.sub hev fun r hr=>?_⟩
 ·obtain⟨k,hk,rfl⟩:=eZ hr
  rw[j3]at hk
  rw[lq hk]
  split
  ·exact .add _ _ _ (mem_row ht) (Span.row hm (mem_row hk))
  ·exact Span.row hm (mem_row hk)
 ·obtain⟨k,hk,rfl⟩:=eZ hr
  have e:∀x,x<m.length→Span n (cS t c m m.length) (aN (cS t c m m.length) x):=fun x hx=>Span.row hev (mem_row (by rw[j3];exact hx))
  have et:=e t ht
  rw[lq ht,if_neg (by simp)]at et
  by_cases h1:k=t
  ·subst h1;exact et
  ·have h2:=e k hk
   rw[lq hk,if_pos ⟨hk,h1⟩]at h2
   have h3:=et.comb hev h2 (bf (aN m k) c)
   have hk':=cu hm hk
   have e3:cY (bf (aN m k) c) (aN m t) (cY (bf (aN m k) c) (aN m t) (aN m k))=aN m k:=iF (n:=n) (by rw[bC (by rw[bC (by omega)];omega),bC (by omega)];exact hk') hk' fun j _=>by
    rw[bZ (by rw[bC (by omega)];omega),bZ (by omega),FB]
   rw[e3]at h3;exact h3
def gA (f g:Nat→UInt8):Nat→UInt8
 |0=>0
 |k+1=>gA f g k^^^Gf.mul (f k) (g k)
theorem iX (f g:Nat→UInt8):∀k,(∀i,i<k→f i=0)→gA f g k=0
 |0,_=>rfl
 |k+1,h=>by rw[gA,iX f g k fun i hi=>h i (by omega),h k (by omega),Gf.zero_mul];rfl
theorem zp (f g:Nat→UInt8) (x:Nat):∀k,x<k→(∀i,i<k→f i=if x=i then 1 else 0)→gA f g k=g x
 |0,hx,_=>by omega
 |k+1,hx,h=>by
  rw[gA]
  by_cases hk:x=k
  ·subst hk
   rw[iX f g x fun i hi=>by rw[h i (by omega),if_neg (by omega)],h x (by omega),if_pos rfl,Gf.one_mul,UInt8.zero_xor]
  ·rw[zp f g x k (by omega) fun i hi=>h i (by omega),h k (by omega),if_neg hk,Gf.zero_mul,UInt8.xor_zero]
theorem zq (f1 f2 g:Nat→UInt8) (c:UInt8):∀k,gA (fun i=>f1 i^^^Gf.mul c (f2 i)) g k=gA f1 g k^^^Gf.mul c (gA f2 g k)
 |0=>by simp[gA,Gf.mul_zero]
 |k+1=>by
  rw[gA,gA,gA,zq f1 f2 g c k,Gf.mW,Gf.Fx,Gf.mul_assoc]
  ac_rfl
theorem xF (S:Row→Prop) (c:Nat):leads S (c+1)=leads S c+if qU S c then 1 else 0:=by
 simp only[leads,List.range_succ,List.countP_append,List.countP_cons,List.countP_nil]
 by_cases h:qU S c<;>simp[h]
theorem Ii (hm:aZ n m):Way n m 0 0 m:=⟨hm,rfl,by omega,fun _=>Iff.rfl,by simp[leads],⟨fun _=>0,fun i hi=>by omega,fun i hi=>by omega,fun i hi=>by omega,fun i j _ hj=>by omega⟩,fun k _ _ j hj=>by omega⟩
theorem JS (hm:aZ n m) {c top:Nat} {rows:bm} (w:Way n m c top rows) (hc:c<n):Way n m (c+1) (fC (top,rows) c).1 (fC (top,rows) c).2:=by
 obtain⟨hev,hlen,htl,hsp,hcnt,⟨p,p1,p2,p3,p4⟩,hlow⟩:=w
 have hS:∀v,Span n rows v↔Span n m v:=hsp
 have hSeq:Span n rows=Span n m:=funext fun v=>propext (hS v)
 unfold fC
 dsimp only
 cases hb:fh rows top c with
 |none=>
  have hno:=Eb hb
  dsimp only
  have hnl:¬qU (Span n m) c:=by
   rw[←hSeq]
   rintro⟨v,hv,hz,hne⟩
   apply hne
   have hφ:=Span.Mh hev (fun v=>bf v c^^^gA (fun i=>bf v (p i)) (fun i=>bf (aN rows i) c) top) (by
     simp only[ft];rw[iX _ _ _ fun i _=>rfl];rfl) (fun x a t ha ht=>by
     simp only[bZ (show a.length=t.length by omega)]
     rw[zq,Gf.mW];ac_rfl) (fun r hr=>by
     obtain⟨k,hk,rfl⟩:=eZ hr
     by_cases hkt:k<top
     ·rw[zp _ _ k top hkt fun i hi=>by rw[p2 i hi k hk]];exact iW _
     ·rw[hno k (by omega) hk,iX _ _ _ fun i hi=>by rw[p2 i hi k hk,if_neg (by omega)]];rfl) hv
   rw[iX _ _ _ fun i hi=>hz _ (p1 i hi),UInt8.xor_zero]at hφ
   exact hφ
  refine⟨hev,hlen,htl,hsp,by rw[xF,if_neg hnl,hcnt];rfl,⟨p,fun i hi=>by have:=p1 i hi;omega,p2,p3,p4⟩,fun k hk1 hk2 j hj=>?_⟩
  rcases Nat.lt_succ_iff_lt_or_eq.1 hj with h|rfl
  ·exact hlow k hk1 hk2 j h
  ·exact hno k hk1 hk2
 |some at_=>
  have hh:=lI hb
  obtain⟨h1,h2,h3⟩:=hh
  dsimp only
  have htt:top<rows.length:=by omega
  obtain⟨r1,hr1⟩:∃r1,r1=fB rows top at_:=⟨_,rfl⟩
  have l1:r1.length=rows.length:=by rw[hr1,hG]
  have ev1:aZ n r1:=by rw[hr1];exact te hev htt h2
  have q1:∀k,aN r1 k=if k=at_ then aN rows top else if k=top then aN rows at_ else aN rows k:=fun k=>by rw[hr1,nt htt h2]
  have q1t:aN r1 top=aN rows at_:=by
   rw[q1]
   by_cases h:top=at_
   ·rw[if_pos h,h]
   ·rw[if_neg h,if_pos rfl]
  have hne1:bf (aN r1 top) c≠0:=by rw[q1t];exact h3
  obtain⟨r2,hr2⟩:∃r2,r2=fY top c r1:=⟨_,rfl⟩
  have l2:r2.length=rows.length:=by rw[hr2,j1,l1]
  have ev2:aZ n r2:=by rw[hr2];exact oy ev1 (by omega)
  have q2:∀k,aN r2 k=if top=k then scaleB (Gf.inv (bf (aN r1 top) c)) (aN r1 top)else aN r1 k:=fun k=>by rw[hr2,qV (by omega)]
  have hz2:∀j,bf (aN r1 top) j=0→bf (aN r2 top) j=0:=fun j hj=>by rw[q2,if_pos rfl,oB,hj,Gf.mul_zero]
  have hone:bf (aN r2 top) c=1:=by rw[q2,if_pos rfl,oB,Gf.mul_comm,Gf.zm hne1]
  obtain⟨r3,hr3⟩:∃r3,r3=cS top c r2 rows.length:=⟨_,rfl⟩
  have l3:r3.length=rows.length:=by rw[hr3,j3,l2]
  have q3:∀k,k<rows.length→∀j,bf (aN r3 k) j=if k=top then bf (aN r2 top) j else bf (aN r1 k) j^^^Gf.mul (bf (aN r1 k) c) (bf (aN r2 top) j):=fun k hk j=>by
   rw[hr3,lq (by omega)]
   by_cases h:k=top
   ·rw[if_neg (by omega),if_pos h,h]
   ·have e:=q2 k
    rw[if_neg (fun hh=>h hh.symm)]at e
    rw[if_pos ⟨hk,h⟩,if_neg h,bZ (by rw[cu ev2 (by omega),cu ev2 (by omega)]),e]
  have low1:∀j,j<c→bf (aN r2 top) j=0:=fun j hj=>hz2 j (by rw[q1t];exact hlow at_ h1 h2 j hj)
  have keep:∀k,k<rows.length→∀j,j<c→bf (aN r3 k) j=if k=top then 0 else bf (aN r1 k) j:=fun k hk j hj=>by
   rw[q3 k hk,low1 j hj,Gf.mul_zero,UInt8.xor_zero]
  have old1:∀k,k<top→aN r1 k=aN rows k:=fun k hk=>by rw[q1,if_neg (by omega),if_neg (by omega)]
  have zer1:∀k,top≤k→k<rows.length→∀j,j<c→bf (aN r1 k) j=0:=fun k hk1 hk2 j hj=>by
   rw[q1]
   split
   ·exact hlow top (Nat.le_refl _) htt j hj
   ·split
    ·exact hlow at_ h1 h2 j hj
    ·exact hlow k hk1 hk2 j hj
  have hspan:∀v,Span n r3 v↔Span n m v:=fun v=>by
   rw[hr3,show rows.length=r2.length by omega,Ih ev2 (by omega),hr2,Ig ev1 (by omega) hne1,hr1,Ie hev htt h2,hS]
  have hlead:qU (Span n m) c:=⟨aN r3 top,(hspan _).1 (Span.row (by rw[hr3];exact oz ev2 (by omega)) (mem_row (by omega))),fun j hj=>by rw[keep top htt j hj,if_pos rfl],by rw[q3 top htt,if_pos rfl,hone];decide⟩
  have hr3':cS top c (fY top c (fB rows top at_)) rows.length=r3:=by rw[hr3,hr2,hr1]
  rw[hr3']
  refine⟨by rw[hr3];exact oz ev2 (by omega),by omega,by omega,hspan,by rw[xF,if_pos hlead,hcnt],⟨fun i=>if i<top then p i else c,fun i hi=>?_,fun i hi k hk=>?_,fun i hi j hj=>?_,fun i j hij hj=>?_⟩,fun k hk1 hk2 j hj=>?_⟩
  ·dsimp only;split
   ·have:=p1 i (by assumption);omega
   ·omega
  ·dsimp only
   by_cases hit:i<top
   ·rw[if_pos hit,keep k (by omega) _ (p1 i hit)]
    by_cases hkt:k<top
    ·rw[if_neg (by omega),old1 k hkt];exact p2 i hit k (by omega)
    ·rw[if_neg (show¬k=i by omega)]
     split
     ·rfl
     ·exact zer1 k (by omega) (by omega) _ (p1 i hit)
   ·have hie:i=top:=by omega
    subst hie
    rw[if_neg hit,q3 k (by omega)]
    by_cases hki:k=i
    ·rw[if_pos hki,if_pos hki];exact hone
    ·rw[if_neg hki,if_neg hki,hone,Gf.mul_one];exact iW _
  ·dsimp only at hj
   by_cases hit:i<top
   ·rw[if_pos hit]at hj
    have:=p1 i hit
    rw[keep i (by omega) j (by omega),if_neg (by omega),old1 i hit]
    exact p3 i hit j hj
   ·have hie:i=top:=by omega
    subst hie
    rw[if_neg hit]at hj
    rw[keep i (by omega) j hj,if_pos rfl]
  ·dsimp only
   rw[if_pos (show i<top by omega)]
   split
   ·exact p4 i j hij (by assumption)
   ·exact p1 i (by omega)
  ·rcases Nat.lt_succ_iff_lt_or_eq.1 hj with h|rfl
   ·rw[keep k (by omega) j h,if_neg (by omega)];exact zer1 k (by omega) (by omega) j h
   ·rw[q3 k (by omega),if_neg (by omega),hone,Gf.mul_one];exact iW _
theorem zr (hm:aZ n m):∀c,c≤n→Way n m c (bp m c).1 (bp m c).2
 |0,_=>Ii hm
 |c+1,h=>by rw[bp];exact JS hm (zr hm c (by omega)) (by omega)
theorem ku:∀c,bp [] c=(0,[])
 |0=>rfl
 |c+1=>by rw[bp,ku c];rfl
theorem mK (hm:aZ n m):dR m=leads (Span n m) n:=by
 rw[←(zr hm n (Nat.le_refl _)).cnt,dR]
 cases m with
 |nil=>rw[ku,ku]
 |cons x t=>rw[fT,cO (by simp)];rw[show((x::t)[0]).length=n from hm _ (by simp)]
end
section
variable {n:Nat} {m m':bm}
theorem Gt {S S':Row→Prop} (h:∀v,S v→S' v) (n:Nat):leads S n≤leads S' n:=by
 refine List.countP_mono_left fun j _ hj=>?_
 simp only[decide_eq_true_eq]at hj⊢
 obtain⟨v,h1,h2⟩:=hj
 exact⟨v,h v h1,h2⟩
theorem Ij (hm:aZ n m) (hm':aZ n m') (h:∀r∈m,r∈m'):dR m≤dR m':=by
 rw[mK hm,mK hm'];exact Gt (fun v=>Span.mono h) n
theorem Ik {P Q:Nat→Bool} (l:List Nat) (hd:l.Nodup) (h1:∀a∈l,P a=true→Q a=true) (h2:∀a∈l,∀b∈l,Q a=true→P a=false→Q b=true→P b=false→a=b):l.countP Q≤l.countP P+1:=by
 induction l with
 |nil=>simp
 |cons x t ih=>
  rw[List.nodup_cons]at hd
  have ih':=ih hd.2 (fun a ha=>h1 a (by simp[ha])) (fun a ha b hb=>h2 a (by simp[ha]) b (by simp[hb]))
  simp only[List.countP_cons]
  cases hQ:Q x with
  |false=>
   have:(if P x=true then 1 else 0)≥0:=by omega
   simp;omega
  |true=>
   cases hP:P x with
   |true=>simp;omega
   |false=>
    have:t.countP Q≤t.countP P:=by
     refine List.countP_mono_left fun a ha hq=>?_
     cases hpa:P a with
     |true=>rfl
     |false=>
      have:=h2 x (by simp) a (by simp[ha]) hQ hP hq hpa
      subst this
      exact absurd ha hd.1
    simp;omega
theorem Az (hm:aZ n m) {r:Row} (hr:r.length=n) {v:Row} (hv:Span n (m++[r]) v):∃(c:UInt8) (u:Row),Span n m u∧v=cY c r u:=by
 have hev:aZ n (m++[r]):=fun x hx=>by
  rcases List.mem_append.1 hx with h|h
  ·exact hm x h
  ·rw[List.mem_singleton.1 h];exact hr
 induction hv with
 |zero=>exact⟨0,bM n,.zero,(iF (n:=n) (by rw[bC (by simp[bM,hr])];simp[bM]) (by simp[bM]) fun j _=>by rw[bZ (by simp[bM,hr]),ft,Gf.zero_mul];rfl).symm⟩
 |add d x w hx hw ih=>
  obtain⟨c,u,hu,rfl⟩:=ih
  have hul:=hu.len hm
  rcases List.mem_append.1 hx with h|h
  ·have hxl:=hm x h
   refine⟨c,cY d x u,.add d x u h hu,iF (n:=n) (by rw[bC (by rw[bC (by omega)];omega),bC (by omega)];exact hul) (by rw[bC (by rw[bC (by omega)];omega),bC (by omega)];exact hul) fun j _=>?_⟩
   rw[bZ (by rw[bC (by omega)];omega),bZ (by omega),bZ (by rw[bC (by omega)];omega),bZ (by omega)]
   ac_rfl
  ·have hxr:=List.mem_singleton.1 h
   subst hxr
   refine⟨c^^^d,u,hu,iF (n:=n) (by rw[bC (by rw[bC (by omega)];omega),bC (by omega)];exact hul) (by rw[bC (by omega)];exact hul) fun j _=>?_⟩
   rw[bZ (by rw[bC (by omega)];omega),bZ (by omega),bZ (by omega),Gf.Fx]
   ac_rfl
theorem Il (hm:aZ n m) {r:Row} (hr:r.length=n):aZ n (m++[r]):=fun x hx=>by
 rcases List.mem_append.1 hx with h|h
 ·exact hm x h
 ·rw[List.mem_singleton.1 h];exact hr
theorem Im (hm:aZ n m) {r:Row} (hr:r.length=n):dR m≤dR (m++[r])∧dR (m++[r])≤dR m+1:=by
 have hev:=Il hm hr
 refine⟨Ij hm hev fun x hx=>by simp[hx],?_⟩
 rw[mK hm,mK hev]
 refine Ik _ List.nodup_range (fun a _ ha=>?_) (fun a _ b _ qa pa qb pb=>?_)
 ·simp only[decide_eq_true_eq]at ha⊢
  obtain⟨v,h1,h2⟩:=ha
  exact⟨v,Span.mono (fun x hx=>by simp[hx]) h1,h2⟩
 ·simp only[decide_eq_true_eq,decide_eq_false_iff_not]at qa pa qb pb
  have key:∀a b,qU (Span n (m++[r])) a→¬qU (Span n m) a→qU (Span n (m++[r])) b→¬qU (Span n m) b→¬a<b:=by
   rintro a b ⟨v,hv,hz,hne⟩ pa ⟨w,hw,hzw,hnw⟩ pb hab
   obtain⟨c,u,hu,rfl⟩:=Az hm hr hv
   obtain⟨d,u',hu',rfl⟩:=Az hm hr hw
   have l1:=hu.len hm;have l2:=hu'.len hm
   have hd:d≠0:=by
    rintro rfl
    apply pb
    refine⟨u',hu',fun i hi=>?_,?_⟩
    ·have:=hzw i hi;rw[bZ (by omega),Gf.zero_mul,UInt8.xor_zero]at this;exact this
    ·rw[bZ (by omega),Gf.zero_mul,UInt8.xor_zero]at hnw;exact hnw
   apply pa
   refine⟨cY (Gf.mul c (Gf.inv d)) u' u,hu'.comb hm hu _,?_⟩
   have hval:∀j,bf (cY (Gf.mul c (Gf.inv d)) u' u) j=bf (cY c r u) j^^^Gf.mul (Gf.mul c (Gf.inv d)) (bf (cY d r u') j):=fun j=>by
    rw[bZ (by omega),bZ (by omega),bZ (by omega),Gf.mW,←Gf.mul_assoc (Gf.mul c (Gf.inv d)) d,Gf.mul_assoc c (Gf.inv d) d,Gf.mul_comm (Gf.inv d) d,Gf.zm hd,Gf.mul_one]
    have:∀x y z:UInt8,x^^^y=x^^^z^^^(y^^^z):=fun x y z=>by
     have:x^^^z^^^(y^^^z)=x^^^y^^^(z^^^z):=by ac_rfl
     rw[this,iW,UInt8.xor_zero]
    exact this _ _ _
   refine⟨fun i hi=>?_,?_⟩
   ·rw[hval,hz i hi,hzw i (by omega),Gf.mul_zero];rfl
   ·rw[hval,hzw a hab,Gf.mul_zero,UInt8.xor_zero];exact hne
  have h1:=key a b qa pa qb pb
  have h2:=key b a qb pb qa pa
  omega
theorem tt (m:bm) (h:aZ n m):dR m≤m.length:=by
 have key:∀k,k≤m.length→dR (m.take k)≤k:=by
  intro k
  induction k with
  |zero=>intro _;simp[dR,fT,aN,bp]
  |succ k ih=>
   intro hk
   have ht:aZ n (m.take k):=fun x hx=>h x (List.mem_of_mem_take hx)
   have h1:=ih (by omega)
   rw[List.take_succ_eq_append_getElem (by omega)]
   have h2:=(Im ht (h _ (List.getElem_mem (show k<m.length by omega)))).2
   omega
 have:=key m.length (Nat.le_refl _)
 rwa [List.take_of_length_le (Nat.le_refl _)]at this
end
end Wl
namespace Wl
open Go
def Gu (p:Int×Int×Int) (seed:Int) (ids:List Int):Nat:=dR (fS p seed ids)
def jX (p:Int×Int×Int) (seed:Int) (ids:List Int):Bool:=bF p&&((Gu p seed ids:Int)==cI p)
def dw (p:Int×Int×Int):List Int:=upto (max 0 (min p.1 16)).toNat
theorem CH {p:Int×Int×Int} (h:bF p=true):cI p=p.1+p.2.1:=by rw[cI,if_pos h]
theorem AA (p:Int×Int×Int) (seed:Int) (ids:List Int):aZ (cI p).toNat (fS p seed ids):=by
 intro r hr
 unfold fS at hr
 split at hr
 ·rename_i hp
  have:=(bH p).1 hp
  rcases List.mem_append.1 hr with h|h
  ·obtain⟨x,_,rfl⟩:=List.mem_map.1 h
   rw[Cz,CH hp];omega
  ·obtain⟨x,_,rfl⟩:=List.mem_map.1 h
   exact JP _ _ _
 ·cases hr
theorem JT (p:Int×Int×Int) (seed:Int) (ids:List Int):(fS p seed ids).length≤4+ids.length:=by
 unfold fS
 split
 ·rename_i hp
  have:=(bH p).1 hp
  have h1:=List.length_filter_le bV ids
  simp only[List.length_append,cE,List.length_map,List.length_range]
  omega
 ·simp
end Wl
namespace Wl
def dn (a b:bm):bm:=List.zipWith (·++·) a b
def gB (n:Nat) (m:bm):bm:=m.map (List.take n)
theorem wE {r:Row} {n j:Nat} (h:j<n):bf (r.take n) j=bf r j:=by
 simp only[bf,List.getD_eq_getElem?_getD,List.getElem?_take];rw[if_pos h]
theorem JU (r:Row) (n j:Nat):bf (r.drop n) j=bf r (n+j):=by
 simp only[bf,List.getD_eq_getElem?_getD,List.getElem?_drop]
theorem mY (n:Nat) (m:bm) (i:Nat):aN (gB n m) i=(aN m i).take n:=by
 simp only[aN,gB,List.getD_eq_getElem?_getD,List.getElem?_map]
 cases m[i]? with
 |none=>simp
 |some r=>rfl
theorem zt (n:Nat) (m:bm):(gB n m).length=m.length:=by simp[gB]
theorem Gv {n top bg:Nat} (m:bm) (h:bg<n):fh (gB n m) top bg=fh m top bg:=by
 unfold fh
 rw[zt]
 congr 1
 funext i
 rw[mY,wE h]
theorem zu (n:Nat) (m:bm) (i:Nat) (r:Row):gB n (m.set i r)=(gB n m).set i (r.take n):=by simp[gB,List.map_set]
theorem JV (n:Nat) (m:bm) (i j:Nat):gB n (fB m i j)=fB (gB n m) i j:=by
 rw[fB,zu,zu,fB,mY,mY]
theorem Io (n:Nat) (c:UInt8) (r:Row):(scaleB c r).take n=scaleB c (r.take n):=by simp[scaleB,List.map_take]
theorem Lu (n:Nat) (c:UInt8) (a t:Row):(cY c a t).take n=cY c (a.take n) (t.take n):=by simp[cY,List.take_zipWith]
theorem JW {n bg:Nat} (h:bg<n) (t:Nat) (m:bm):gB n (fY t bg m)=fY t bg (gB n m):=by
 rw[fY,zu,Io,fY,mY,wE h]
theorem JX {n bg:Nat} (h:bg<n) (t k:Nat) (m:bm):gB n (cS t bg m k)=cS t bg (gB n m) k:=by
 apply List.ext_getElem?
 intro i
 simp only[gB,cS,List.getElem?_map,List.getElem?_mapIdx]
 cases m[i]? with
 |none=>rfl
 |some r=>
  simp only[Option.map_some]
  congr 1
  have:=mY n m t
  rw[gB]at this
  rw[this,wE h]
  split
  ·exact Lu _ _ _ _
  ·rfl
theorem JY {n bg:Nat} (h:bg<n) (s:Nat×bm):((fC s bg).1,gB n (fC s bg).2)=fC (s.1,gB n s.2) bg:=by
 unfold fC
 dsimp only
 rw[Gv _ h]
 cases fh s.2 s.1 bg with
 |none=>rfl
 |some i=>dsimp only;rw[JX h,JW h,JV,zt]
theorem xG (n:Nat) (m:bm):∀c,c≤n→((bp m c).1,gB n (bp m c).2)=bp (gB n m) c
 |0,_=>rfl
 |c+1,h=>by
  have ih:=xG n m c (by omega)
  rw[bp,bp,JY (show c<n by omega),ih]
theorem jm {a b:bm} (h:a.length=b.length):(dn a b).length=a.length:=by simp[dn,h]
theorem vd {a b:bm} (h:a.length=b.length) {i:Nat} (hi:i<a.length):aN (dn a b) i=aN a i++aN b i:=by
 rw[cO (by rw[jm h];exact hi),cO hi,cO (by omega)];simp[dn]
theorem lu {n w:Nat} {a b:bm} (h:a.length=b.length) (ha:aZ n a) (hb:aZ w b):aZ (n+w) (dn a b):=fun r hr=>by
 obtain⟨i,hi,rfl⟩:=eZ hr
 rw[jm h]at hi
 rw[vd h hi,List.length_append,cu ha hi,cu hb (by omega)]
theorem Lv {n:Nat} {a b:bm} (h:a.length=b.length) (ha:aZ n a):gB n (dn a b)=a:=by
 apply List.ext_getElem (by rw[zt,jm h])
 intro i h1 h2
 have:=mY n (dn a b) i
 rw[cO h1,vd h h2,List.take_left' (cu ha h2),cO h2]at this
 exact this
theorem JZ {n:Nat} {a:bm} (ha:aZ n a):(bp a n).1=dR a:=by
 rw[dR]
 cases a with
 |nil=>rw[ku,ku]
 |cons x t=>rw[fT,cO (by simp)];rw[show((x::t)[0]).length=n from ha _ (by simp)]
theorem CI {n:Nat} {a b:bm} (h:a.length=b.length) (ha:aZ n a):(bp (dn a b) n).1=dR a:=by
 have:=congrArg Prod.fst (xG n (dn a b) n (Nat.le_refl _))
 rw[Lv h ha]at this
 rw[←JZ ha];exact this
def qW (w:Nat) (r:Row) (X:bm):Nat→Row
 |0=>bM w
 |k+1=>cY (bf r k) (aN X k) (qW w r X k)
theorem wF {n w:Nat} {X:bm} (hX:aZ w X) (hl:X.length=n) (r:Row):∀k,k≤n→(qW w r X k).length=w
 |0,_=>by simp[qW,bM]
 |k+1,h=>by
  have ih:=wF hX hl r k (by omega)
  rw[qW,bC (by rw[cu hX (by omega),ih])];exact ih
theorem wG {n w:Nat} {X:bm} (hX:aZ w X) (hl:X.length=n) (r:Row) (j:Nat):∀k,k≤n→bf (qW w r X k) j=gA (fun i=>bf r i) (fun i=>bf (aN X i) j) k
 |0,_=>by rw[qW,ft];rfl
 |k+1,h=>by
  have ih:=wG hX hl r j k (by omega)
  rw[qW,bZ (by rw[cu hX (by omega),wF hX hl r k (by omega)]),ih];rfl
def tu (n w:Nat) (a b X:bm):Prop:=X.length=n∧aZ w X∧∀i,i<a.length→qW w (aN a i) X n=aN b i
def nu (n:Nat) (X:bm) (k:Nat) (v:Row):UInt8:=bf v (n+k)^^^gA (fun i=>bf v i) (fun i=>bf (aN X i) k) n
theorem mL {f f' g g':Nat→UInt8}:∀k,(∀i,i<k→f i=f' i)→(∀i,i<k→g i=g' i)→gA f g k=gA f' g' k
 |0,_,_=>rfl
 |k+1,h1,h2=>by rw[gA,gA,mL k (fun i hi=>h1 i (by omega)) (fun i hi=>h2 i (by omega)),h1 k (by omega),h2 k (by omega)]
theorem FC (n:Nat) (X:bm) (k:Nat) (c:UInt8) (a t:Row) (h:a.length=t.length):nu n X k (cY c a t)=nu n X k t^^^Gf.mul c (nu n X k a):=by
 unfold nu
 rw[bZ h]
 have:gA (fun i=>bf (cY c a t) i) (fun i=>bf (aN X i) k) n=gA (fun i=>bf t i^^^Gf.mul c (bf a i)) (fun i=>bf (aN X i) k) n:=mL n (fun i _=>bZ h i) fun _ _=>rfl
 rw[this,zq,Gf.mW];ac_rfl
theorem FD {a b:Row} {n:Nat} (ha:a.length=n) (k:Nat):bf (a++b) (n+k)=bf b k:=by
 simp only[bf,List.getD_eq_getElem?_getD]
 rw[List.getElem?_append_right (by omega),ha,Nat.add_sub_cancel_left]
theorem CJ {a b:Row} {n j:Nat} (ha:a.length=n) (hj:j<n):bf (a++b) j=bf a j:=by
 simp only[bf,List.getD_eq_getElem?_getD]
 rw[List.getElem?_append_left (by omega)]
theorem tv {a b:UInt8}:a^^^b=0↔a=b:=by
 constructor
 ·intro h
  have:=congrArg (·^^^b) h
  simp only[UInt8.zero_xor]at this
  rwa [FB]at this
 ·rintro rfl;exact iW _
theorem Gw {n w:Nat} {a b X:bm} (h:a.length=b.length) (ha:aZ n a) (hb:aZ w b) (hl:X.length=n) (hX:aZ w X):tu n w a b X↔∀k,k<w→∀v,Span (n+w) (dn a b) v→nu n X k v=0:=by
 have hev:=lu h ha hb
 constructor
 ·intro hs k hk v hv
  refine Span.Mh hev (nu n X k) ?_ (fun c a t h1 h2=>FC n X k c a t (by omega)) (fun r hr=>?_) hv
  ·unfold nu
   rw[ft,iX _ _ n fun i _=>ft _ _];rfl
  ·obtain⟨i,hi,rfl⟩:=eZ hr
   rw[jm h]at hi
   rw[vd h hi]
   unfold nu
   rw[FD (cu ha hi),←hs.2.2 i hi,wG hX hl _ k n (Nat.le_refl _),tv]
   exact mL n (fun j hj=>(CJ (cu ha hi) hj).symm) fun _ _=>rfl
 ·intro hp
  refine⟨hl,hX,fun i hi=>iF (n:=w) (wF hX hl _ n (Nat.le_refl _)) (cu hb (by omega)) fun k hk=>?_⟩
  have:=hp k hk _ (Span.row hev (mem_row (show i<(dn a b).length by rw[jm h];exact hi)))
  rw[vd h hi]at this
  unfold nu at this
  rw[FD (cu ha hi),tv]at this
  rw[this,wG hX hl _ k n (Nat.le_refl _)]
  exact mL n (fun j hj=>(CJ (cu ha hi) hj).symm) fun _ _=>rfl
theorem Mi {n:Nat} {p:Nat→Nat} (h1:∀i,i<n→p i<n) (h2:∀i j,i<j→j<n→p i<p j):∀i,i<n→p i=i:=by
 have lo:∀i,i<n→i≤p i:=by
  intro i
  induction i with
  |zero=>intro _;omega
  |succ i ih=>intro hi;have:=ih (by omega);have:=h2 i (i+1) (by omega) hi;omega
 have up:∀k i,i+k+1=n→p i≤i:=by
  intro k
  induction k with
  |zero=>intro i hi;have:=h1 i (by omega);omega
  |succ k ih=>intro i hi;have:=ih (i+1) (by omega);have:=h2 i (i+1) (by omega) (by omega);omega
 intro i hi
 have:=lo i hi
 have:=up (n-1-i) i (by omega)
 omega
def iY (n:Nat) (a b:bm):bm:=(((bp (dn a b) n).2).take n).map (List.drop n)
def KV (n:Nat) (a b:bm):Prop:=∀r∈((bp (dn a b) n).2).drop n,r=bM r.length
section
variable {n w:Nat} {a b:bm}
theorem zw (h:a.length=b.length) (ha:aZ n a) (hb:aZ w b) (hr:dR a=n):(iY n a b).length=n∧aZ w (iY n a b):=by
 have hev:=lu h ha hb
 have h2:=gz hev n
 have h3:=tt a ha
 refine⟨by rw[iY,List.length_map,List.length_take,h2.2,jm h];omega,fun r hr'=>?_⟩
 obtain⟨x,hx,rfl⟩:=List.mem_map.1 hr'
 rw[List.length_drop,h2.1 x (List.mem_of_mem_take hx)];omega
theorem Lw (h:a.length=b.length) (ha:aZ n a) (hr:dR a=n) {i:Nat} (hi:i<n):aN (iY n a b) i=(aN (bp (dn a b) n).2 i).drop n:=by
 simp only[aN,iY,List.getD_eq_getElem?_getD,List.getElem?_map,List.getElem?_take]
 rw[if_pos hi]
 cases(bp (dn a b) n).2[i]? with
 |none=>simp
 |some r=>rfl
theorem J0 (h:a.length=b.length) (ha:aZ n a) (hb:aZ w b) (hr:dR a=n):
  (∀v,Span (n+w) (bp (dn a b) n).2 v↔Span (n+w) (dn a b) v)∧(bp (dn a b) n).2.length=a.length∧(∀i,i<n→∀k,k<a.length→bf (aN (bp (dn a b) n).2 k) i=if k=i then 1 else 0):=by
 have hev:=lu h ha hb
 have W:=zr hev n (by omega)
 have ht:(bp (dn a b) n).1=n:=by rw[CI h ha,hr]
 obtain⟨p,p1,p2,p3,p4⟩:=W.piv
 rw[ht]at p1 p2 p3 p4
 have hid:=Mi p1 p4
 have hl:(bp (dn a b) n).2.length=a.length:=by rw[W.len,jm h]
 refine⟨W.span,hl,fun i hi k hk=>?_⟩
 have:=p2 i hi k (by omega)
 rwa [hid i hi]at this
theorem J1 {X:bm} {r:Row} {i k:Nat} (hi:i<n) (hr:∀j,j<n→bf r j=if i=j then 1 else 0):nu n X k r=bf r (n+k)^^^bf (aN X i) k:=by
 unfold nu
 rw[zp _ _ i n hi fun j hj=>hr j hj]
theorem Lx {X:bm} {r:Row} {k:Nat} (hr:∀j,j<n→bf r j=0):nu n X k r=bf r (n+k):=by
 unfold nu
 rw[iX _ _ n hr,UInt8.xor_zero]
theorem Gx (h:a.length=b.length) (ha:aZ n a) (hb:aZ w b) (hr:dR a=n) (hc:KV n a b):tu n w a b (iY n a b):=by
 have hev:=lu h ha hb
 have h2:=gz hev n
 obtain⟨hsp,hl,hd⟩:=J0 h ha hb hr
 have hle:=tt a ha
 obtain⟨s1,s2⟩:=zw h ha hb hr
 refine(Gw h ha hb s1 s2).2 fun k hk v hv=>?_
 refine Span.Mh h2.1 (nu n (iY n a b) k) ?_ (fun c x t h1 h2=>FC n _ k c x t (by omega)) (fun r hr'=>?_) ((hsp v).2 hv)
 ·unfold nu
  rw[ft,iX _ _ n fun i _=>ft _ _];rfl
 ·obtain⟨i,hi,rfl⟩:=eZ hr'
  by_cases hin:i<n
  ·rw[J1 hin fun j hj=>hd j hj i (by omega),Lw h ha hr hin,JU];exact iW _
  ·rw[Lx fun j hj=>by rw[hd j hj i (by omega),if_neg (by omega)]]
   have:aN (bp (dn a b) n).2 i∈(bp (dn a b) n).2.drop n:=by
    rw[cO hi]
    obtain⟨d,rfl⟩:∃d,i=n+d:=⟨i-n,by omega⟩
    rw[←List.getElem_drop (h:=by rw[List.length_drop];omega)]
    exact List.getElem_mem _
   rw[hc _ this,ft]
theorem Ed (h:a.length=b.length) (ha:aZ n a) (hb:aZ w b) (hn:a.length=n):KV n a b:=by
 have hev:=lu h ha hb
 have h2:=gz hev n
 intro r hr
 rw[List.drop_of_length_le (by rw[h2.2,jm h];omega)]at hr
 cases hr
end
end Wl
namespace Wl
def jB (w:Nat) (X:bm) (l:List Int):Row:=l.foldl (fun s c=>cY 1 (aN X c.toNat) s) (bM w)
theorem CK (w:Nat) (X:bm) (l:List Int) (c:Int):jB w X (l++[c])=cY 1 (aN X c.toNat) (jB w X l):=by rw[jB,List.foldl_append];rfl
theorem tw {n w:Nat} {X:bm} (hX:aZ w X) (hl:X.length=n) {l:List Int} (hin:∀x∈l,0≤x∧x<(n:Int)):∀k,k≤l.length→(jB w X (l.take k)).length=w:=by
 intro k
 induction k with
 |zero=>intro _;simp[jB,bM]
 |succ k ih=>
  intro hk
  have hx:=hin _ (List.getElem_mem (show k<l.length by omega))
  rw[List.take_succ_eq_append_getElem (by omega),CK,bC (by rw[cu hX (by omega),ih (by omega)])]
  exact ih (by omega)
theorem Ly {n w:Nat} {X:bm} (hX:aZ w X) (hl:X.length=n) {l:List Int} (hin:∀x∈l,0≤x∧x<(n:Int)):(jB w X l).length=w:=by
 have:=tw hX hl hin l.length (Nat.le_refl _)
 rwa [List.take_of_length_le (Nat.le_refl _)]at this
end Wl
namespace Wl
open Go Go.Vc
def iz (K H w:Nat) (d:Row):bm:=List.replicate H (bM w)++(List.range K).map (HG d w)
def ie (p:Int×Int×Int) (seed:Int) (d:Row):bm:=iY (cI p).toNat (fS p seed (dw p)) (iz p.1.toNat p.2.1.toNat p.2.2.toNat d)
structure bN (p:Int×Int×Int) (seed:Int) (d:Row) (K H w n:Nat):Prop where
 may:bF p=true
 full:jX p seed (dw p)=true
 k:p.1=K
 h:p.2.1=H
 s:p.2.2=w
 n:n=K+H
 k1:1≤K
 k2:K≤16
 h1:1≤H
 h2:H≤4
 w1:1≤w
 w2:w≤24
 len:d.length=K*w
theorem KW {p:Int×Int×Int} {seed:Int} {d:Row} (hm:bF p=true) (hf:jX p seed (dw p)=true) (hl:(d.length:Int)=p.1*p.2.2):∃K H w n,bN p seed d K H w n:=by
 have:=(bH p).1 hm
 refine⟨p.1.toNat,p.2.1.toNat,p.2.2.toNat,p.1.toNat+p.2.1.toNat,hm,hf,by omega,by omega,by omega,rfl,by omega,by omega,by omega,by omega,by omega,by omega,?_⟩
 have e1:p.1=(p.1.toNat:Int):=by omega
 have e2:p.2.2=(p.2.2.toNat:Int):=by omega
 rw[e1,e2,←Int.natCast_mul]at hl
 exact Int.ofNat.inj hl
section
variable {p:Int×Int×Int} {seed:Int} {d:Row} {K H w n:Nat}
theorem bN.nv (B:bN p seed d K H w n):cI p=n:=by rw[CH B.may,B.k,B.h,B.n];rfl
theorem bN.ve (B:bN p seed d K H w n):(cI p).toNat=n:=by rw[B.nv];rfl
theorem Gy (hK:p.1=(K:Int)) (h:K≤16):dw p=upto K:=by
 rw[dw];congr 1;omega
theorem Ee (h:K≤16):(upto K).filter bV=upto K:=by
 rw[List.filter_eq_self]
 intro x hx
 simp[upto]at hx
 obtain⟨a,ha,rfl⟩:=hx
 simp[bV];omega
theorem bN.Fv (B:bN p seed d K H w n):fS p seed (dw p)=cE K H++(List.range K).map fun i:Nat=>zn n seed (i:Int):=by
 rw[fS,if_pos B.may,Gy B.k B.k2,Ee B.k2,B.k,B.h,B.ve,Int.toNat_natCast,Int.toNat_natCast,upto,List.map_map]
 rfl
theorem bN.xH (B:bN p seed d K H w n):(fS p seed (dw p)).length=n:=by
 rw[B.Fv,List.length_append,List.length_map,List.length_range,cE,List.length_map,List.length_range,B.n];omega
theorem bN.vf (B:bN p seed d K H w n):aZ n (fS p seed (dw p)):=by
 have:=AA p seed (dw p)
 rwa [B.ve]at this
theorem bN.J2 (B:bN p seed d K H w n):dR (fS p seed (dw p))=n:=by
 have h:=B.full
 rw[jX,B.may,B.nv,Gu]at h
 simp at h
 exact Int.ofNat.inj h
theorem tz (K H w:Nat) (d:Row):(iz K H w d).length=K+H:=by simp[iz];omega
theorem mM (hl:d.length=K*w):aZ w (iz K H w d):=fun r hr=>by
 rcases List.mem_append.1 hr with h|h
 ·rw[(List.mem_replicate.1 h).2];simp[bM]
 ·obtain⟨i,hi,rfl⟩:=List.mem_map.1 h
  rw[List.mem_range]at hi
  exact Lp (by rw[hl];exact Nat.mul_le_mul_right w hi)
theorem Ip {i:Nat} (hi:i<H):aN (iz K H w d) i=bM w:=by
 rw[aN,iz,List.getD_eq_getElem?_getD,List.getElem?_append_left (by simpa using hi)];simp[hi]
theorem bN.rF (B:bN p seed d K H w n):ie p seed d=iY n (fS p seed (dw p)) (iz K H w d):=by
 rw[ie,B.ve,B.k,B.h,B.s];rfl
theorem bN.lens (B:bN p seed d K H w n):(fS p seed (dw p)).length=(iz K H w d).length:=by rw[B.xH,tz,B.n]
theorem bN.xI (B:bN p seed d K H w n):(ie p seed d).length=n∧aZ w (ie p seed d):=by
 rw[B.rF];exact zw B.lens B.vf (mM B.len) B.J2
theorem bN.tu (B:bN p seed d K H w n):tu n w (fS p seed (dw p)) (iz K H w d) (ie p seed d):=by
 rw[B.rF]
 exact Gx B.lens B.vf (mM B.len) B.J2 (Ed B.lens B.vf (mM B.len) B.xH)
theorem bN.Mj (B:bN p seed d K H w n) {i:Nat} (hi:i<H):aN (fS p seed (dw p)) i=iU K H i:=by
 rw[B.Fv,aN,List.getD_eq_getElem?_getD,List.getElem?_append_left (by simpa[cE]using hi)];simp[cE,hi]
theorem bN.low (B:bN p seed d K H w n) {i:Nat} (hi:i<H):qW w (iU K H i) (ie p seed d) n=bM w:=by
 have:=B.tu.2.2 i (by rw[B.xH,B.n];omega)
 rwa [B.Mj hi,Ip hi]at this
theorem bN.n1 (B:bN p seed d K H w n):1≤n:=by have:=B.n;have:=B.k1;omega
theorem bN.n2 (B:bN p seed d K H w n):n≤20:=by have:=B.n;have:=B.k2;have:=B.h2;omega
theorem bN.Mk (B:bN p seed d K H w n) (id:Int):(jB w (ie p seed d) (ib n seed id)).length=w:=
 Ly B.xI.2 B.xI.1 fun _ hx=>td B.n1 B.n2 hx
end
end Wl
namespace Go.Vc
open Go
theorem Ef {α:Type} {e2 k:Nat} {f:α→List Value}:∀{rs:List Sl} {ll:List (List α)} (rs':List Sl) (ll':List (List α)),rs.length=ll.length→bu e2 k f (rs++rs') (ll++ll')=bu e2 k f rs ll++bu e2 k f rs' ll':=by
 intro rs ll rs' ll' h
 unfold bu
 exact List.zipWith_append h
theorem aa.J3 {B:aq} {h0 h:Heap} {X:HP}:∀{L M:List HP},aa B h0 h (L++X::M)→aa B h0 h (L++M):=fun{L M} H=>by
 have:=H.del L.length
 rwa [List.eraseIdx_append_of_length_le (Nat.le_refl _),Nat.sub_self,List.eraseIdx_cons_zero]at this
section
variable {α:Type} {C:Ctx} {B:aq} {h0 h h':Heap} {As:List HP} {e e2 k t t2 by_:Nat} {s s2:Sl} {f:α→List Value} {ll l2:List (List α)}
theorem aa.Lz (hC:C.Ok) (H:aa B h0 h (eX e s e2 k f ll::eX e s2 e2 k f l2::As)) (he:bB C.topA t e 1 [.slice none 0 0] 24) (h2:∃i e2,C.T.get t2=some i∧i.bL=.slice e2) (hsz:ll.length+l2.length≤2^32) {ty:Nat} {K:Sl→Heap→Prop}
  (hk:∀s' h',aa B h0 h' (eX e s' e2 k f (ll++l2)::As)→K s' h'):
  av C.P (Builtin.append_ #[t,t2] ty #[.slice s.ptr s.len s.cap,.slice s2.ptr s2.len s2.cap]) (.one (.sc .slc)) h K:=by
 obtain⟨rs,hl,H1⟩:=H.xw
 obtain⟨L1,hL1⟩:∃L1,L1=bu e2 k f rs ll:=⟨_,rfl⟩
 rw[←hL1]at H1
 have H2:aa B h0 h (eX e s2 e2 k f l2::(As++(ak e s 1 b9 rs::L1))):=H1.front
 obtain⟨rs2,hl2,H3⟩:=H2.xw
 obtain⟨L2,hL2⟩:∃L2,L2=bu e2 k f rs2 l2:=⟨_,rfl⟩
 rw[←hL2]at H3
 have H4:=H3.front
 rw[List.append_assoc]at H4
 have H5:=H4.front
 have H6:aa B h0 h (ak e s 1 b9 rs::(L1++(ak e s2 1 b9 rs2::(L2++As)))):=by
  have e0:(ak e s 1 b9 rs::L1++(ak e s2 1 b9 rs2::L2))++As=ak e s 1 b9 rs::(L1++(ak e s2 1 b9 rs2::(L2++As))):=by simp
  rw[←e0];exact H5
 have hv:Seq h (fun b=>b<h.size) s2 1 b9 rs2:=H6.seq (L1.length+1) (by rw[List.getElem?_cons_succ,List.getElem?_append_right (Nat.le_refl _),Nat.sub_self];rfl) fun _=>rfl
 refine H6.append hC 0 rfl he h2 rfl (by decide) (fun _=>rfl) hv nh (by omega) fun s' h' H7=>hk s' h' ?_
 have H7:aa B h0 h' ((ak e s' 1 b9 (rs++rs2)::L1)++(ak e s2 1 b9 rs2::(L2++As))):=H7
 have H8:=aa.J3 H7
 refine aa.Cr (rs:=rs++rs2) (by simp[hl,hl2]) ?_
 rw[Ef rs2 l2 hl,←hL1,←hL2]
 have e1:(ak e s' 1 b9 (rs++rs2)::(L1++L2))++As=(ak e s' 1 b9 (rs++rs2)::L1)++(L2++As):=by simp
 rw[e1];exact H8
end
end Go.Vc
namespace Go.Vc
open Go
abbrev dT:=FloatKind.format .f64
theorem tC {P:Program} {a b c:Nat} (h:dT.add a b=some c):ar P (Op.Complex.arith .add .f64 a b) c:=fun w=>by
 have h':(FloatKind.format .f64).add a b=some c:=h
 unfold Op.Complex.arith Op.floatArith
 simp only[h']
 rfl
theorem tE {P:Program} {a b c:Nat} (h:dT.sub a b=some c):ar P (Op.Complex.arith .sub .f64 a b) c:=fun w=>by
 have h':(FloatKind.format .f64).sub a b=some c:=h
 unfold Op.Complex.arith Op.floatArith
 simp only[h']
 rfl
theorem oC {P:Program} {a b c:Nat} (h:dT.mul a b=some c):ar P (Op.Complex.arith .mul .f64 a b) c:=fun w=>by
 have h':(FloatKind.format .f64).mul a b=some c:=h
 unfold Op.Complex.arith Op.floatArith
 simp only[h']
 rfl
theorem o4 {P:Program} {op:BinOp} (h:op=.add∨op=.sub∨op=.mul) (t:TypeId) (x y:Operand) (a b:Value):ar P (eqGuard op t x y a b) ():=fun w=>by
 rcases h with rfl|rfl|rfl<;>rfl
theorem LA {P:Program} {t:TypeId} {x y:Operand} {a b c d e f:Nat} (h1:dT.add a c=some e) (h2:dT.add b d=some f):iv P .add t x y (.complex .f64 a b) (.complex .f64 c d) (.complex .f64 e f):=
 (o4 (.inl rfl) t x y _ _).bind (show ar P (Op.complexOp .add .f64 a b c d) _ from(tC h1).bind ((tC h2).bind fun _=>rfl))
theorem LB {P:Program} {t:TypeId} {x y:Operand} {a b c d e f:Nat} (h1:dT.sub a c=some e) (h2:dT.sub b d=some f):iv P .sub t x y (.complex .f64 a b) (.complex .f64 c d) (.complex .f64 e f):=
 (o4 (.inr (.inl rfl)) t x y _ _).bind (show ar P (Op.complexOp .sub .f64 a b c d) _ from(tE h1).bind ((tE h2).bind fun _=>rfl))
theorem LC {P:Program} {t:TypeId} {x y:Operand} {a b c d e f m1 m2 m3 m4:Nat} (h1:dT.mul a c=some m1) (h2:dT.mul b d=some m2) (h3:dT.sub m1 m2=some e) (h4:dT.mul a d=some m3) (h5:dT.mul b c=some m4) (h6:dT.add m3 m4=some f):
  iv P .mul t x y (.complex .f64 a b) (.complex .f64 c d) (.complex .f64 e f):=by
 refine(o4 (.inr (.inr rfl)) t x y _ _).bind ?_
 have hp:ar P (Op.Complex.product a b c d) (e,f):=
  (oC h1).bind ((oC h2).bind ((tE h3).bind ((oC h4).bind ((oC h5).bind ((tC h6).bind fun _=>rfl)))))
 show ar P (Op.complexOp .mul .f64 a b c d) _
 have hc:∀x,ar P (Op.Complex.conv .f64 x .f64) x:=fun x w=>by unfold Op.Complex.conv;rw[if_pos rfl];rfl
 unfold Op.complexOp
 refine(hc a).bind ((hc b).bind ((hc c).bind ((hc d).bind ?_)))
 refine ar.bind (v:=(e,f)) ?_ ?_
 ·exact hp
 ·exact(hc e).bind ((hc f).bind fun _=>rfl)
end Go.Vc
