/- Part of the proofs that the laws of this seat answer true whatever the input reads, and leave it as it was; no condition. -/
import Derived.Test.YtkciobclldnoiaaGreatPlD
import Derived.Test.YtkciobclldnoiaaGreatPlA
set_option linter.unusedVariables false
set_option linter.unusedSimpArgs false
namespace Wl
open Go
def jC (o b t:Int):Int:=(128*o+16*b+t)%4294967296
def iD (m:aF) (r:db):Bool:=jO r&&(decide (r.p=m.p)&&m.aJ.any fun x=>decide (x.object=r.object)&&(decide (r.block<(x.tries.length:Int))&&decide (r.seed=jC r.object r.block (x.tries.getD r.block.toNat 0))))
def Nx (a b:db):Bool:=decide (a.object<b.object∨(a.object=b.object∧(a.block<b.block∨(a.block=b.block∧a.id≤b.id))))
def Ny (a b:db):Bool:=decide (a.object=b.object∧a.block=b.block∧a.id=b.id)
def zY:db:=⟨0,0,0,(0,0,0),0,[]⟩
def zZ (l:List db) (k:Nat):Bool:=decide (k=0)||!Ny (l.getD k zY) (l.getD (k-1) zY)
def yV (l:List db):List db:=((List.range l.length).filter (zZ l)).map fun i=>l.getD i zY
def gD (m:aF) (c:List UInt8):Option db:=match ft c with|some r=>if iD m r then some r else none|none=>none
def fa (m:aF) (l:List (List UInt8)):List db:=yV ((l.filterMap (gD m)).mergeSort Nx)
theorem Jj (m:aF) (l:List (List UInt8)) (i:Nat) (hi:i<l.length):(l.take (i+1)).filterMap (gD m)=(l.take i).filterMap (gD m)++(gD m l[i]).toList:=by
 have:l.take (i+1)=l.take i++[l[i]]:=by rw[List.take_add_one,List.getElem?_eq_getElem hi];rfl
 rw[this,List.filterMap_append]
 cases hg:gD m l[i]with
 |none=>simp[hg]
 |some r=>simp[hg]
end Wl
namespace Go.Vc
open Go
section
variable {B:au} {α:Type} {C:Ctx} {h0 h:Heap} {As:List HP} {e t k by_:Nat} {s:Sl} {f:α→List Value} {l:List α} {z:List Value}
theorem ug (z:List Value) (n:Nat):(Builtin.zeroCells z.toArray n).toList.length=n*z.length:=by
 simp[Builtin.zeroCells]
theorem DF {z:List Value} (hz:∀v∈z,v.oneCell'=true) (n:Nat):∀v∈(Builtin.zeroCells z.toArray n).toList,v.oneCell'=true:=by
 intro v hv
 simp only[Builtin.zeroCells,Array.toList_map,List.mem_map,Array.mem_toList_iff,Array.mem_range]at hv
 obtain⟨i,hi,rfl⟩:=hv
 simp only[List.size_toArray]at hi⊢
 have h0:0<z.length:=by
  rcases Nat.eq_zero_or_pos z.length with h|h
  ·rw[h]at hi;simp at hi
  ·exact h
 have hlt:=Nat.mod_lt i h0
 rw[getElem!_pos z.toArray _ (by simpa using hlt)]
 exact hz _ (by simp)
theorem Own.nt (hC:C.Ok) (ho:Own h e s k f l) (he:bM C.torD t e k z by_) (hw:∀x,(f x).length=k) (hz:z.length=k) (hone:∀v∈z,v.oneCell'=true) (j:Nat) (hj:j≤l.length) {ty:Nat} {K:Heap→Prop}
  (hk:∀h',Own h' e ⟨s.ptr,j,s.cap⟩ k f (l.take j)→aH (fun b=>¬s.on b) h h'→K h'):
  ae C.P (Builtin.clear_ #[t] ty #[.slice (if s.cap=j then s.ptr else s.ptr.map (·.add (j*k))) (s.len-j) (s.cap-j)]) h fun _ h'=>K h':=by
 have hl:=ho.len
 have hcut:=ho.cut hw j hj
 unfold Builtin.clear_
 refine ae.bind (ae.always (aw (he.under hC)) ?_)
 by_cases hjl:j=l.length
 ·have e0:s.len-j=0:=by omega
  rw[e0]
  generalize (if s.cap=j then s.ptr else s.ptr.map (·.add (j*k)))=q
  cases q with
  |none=>exact ae.pure' (hk h hcut (aH.refl _ _))
  |some a=>exact ae.pure' (hk h hcut (aH.refl _ _))
 ·rcases ho.head with⟨h1,h2,h3⟩|⟨b,rest,h1,h2,h3,h4⟩
  ·subst h3;simp at hj hjl;omega
  ·have hne:s.cap≠j:=by omega
   rw[if_neg hne,h1]
   obtain⟨m,hm⟩:∃m,s.len-j=m+1:=⟨s.len-j-1,by omega⟩
   rw[hm]
   obtain⟨i2,j2,g1,g2,g3,g4,g5,g6⟩:=he.ex
   obtain⟨zv,z1,z2⟩:=mX hC.toOk g3
   refine ae.bind (ae.always z1 ?_)
   have hzc:zv.cells=z.toArray:=by apply Array.ext';rw[z2,g5]
   rw[hzc]
   refine ae.bind ?_
   have e1:((⟨b,0,none⟩:Addr).add (j*k))=⟨b,j*k,none⟩:=by simp[add_eq]
   show ae C.P (storeCells ((⟨b,0,none⟩:Addr).add (j*k)) (Builtin.zeroCells z.toArray (m+1)).toList) h _
   rw[e1]
   have hfl:(l.drop j).length=m+1:=by simp;omega
   refine cO (e:=e) (pre:=(l.take j).flatMap f) (old:=(l.drop j).flatMap f) (post:=rest) ?_ ?_ ?_ (DF hone _) ?_
   ·rw[←List.flatMap_append,List.take_append_drop];exact h2
   ·rw[cC hw,hfl,ug,hz]
   ·rw[cC hw,List.length_take,Nat.min_eq_left (by omega)];omega
   ·refine ae.pure' (hk _ ⟨by simp;omega,.inr ⟨b,(Builtin.zeroCells z.toArray (m+1)).toList++rest,h1,?_,?_,by dsimp only;omega⟩⟩ ?_)
    ·rw[eJ h2,if_pos rfl];simp
    ·rw[List.length_append,ug,hz,h3,←Nat.add_mul];dsimp only;congr 1;omega
    ·exact aH.eX h2 fun hh=>hh ⟨0,h1⟩
theorem aa.nt (hC:C.Ok) (H:aa B h0 h As) (i:Nat) (hi:As[i]?=some (an e s k f l)) (he:bM C.torD t e k z by_) (hw:∀x,(f x).length=k) (hz:z.length=k) (hone:∀v∈z,v.oneCell'=true) (j:Nat) (hj:j≤l.length) {ty:Nat} {K:Heap→Prop}
  (hk:∀h',aa B h0 h' (As.set i (an e ⟨s.ptr,j,s.cap⟩ k f (l.take j)))→K h'):
  ae C.P (Builtin.clear_ #[t] ty #[.slice (if s.cap=j then s.ptr else s.ptr.map (·.add (j*k))) (s.len-j) (s.cap-j)]) h fun _ h'=>K h':=
 (H.own i hi).nt hC he hw hz hone j hj fun h' x y=>hk h' (H.step i hi fun q hq _=>⟨y.mono fun b _ hb hon=>hb (hq.2 b hon),x,fun b hb=>⟨x.lt hb,.inl (hq.2 b hb)⟩⟩)
end
end Go.Vc
namespace Wl
open Go
theorem Et:∀x y:List UInt8,(Op.bytesLess x y||x==y)=!Op.bytesLess y x
 |[],[]=>rfl
 |[],_::_=>rfl
 |_::_,[]=>by simp[Op.bytesLess]
 |a::x,b::y=>by
  have ih:=Et x y
  have hab:a<b∨a=b∨b<a:=by
   rcases Nat.lt_trichotomy a.toNat b.toNat with h|h|h
   ·exact .inl (UInt8.lt_iff_toNat_lt.2 h)
   ·exact .inr (.inl (UInt8.toNat_inj.1 h))
   ·exact .inr (.inr (UInt8.lt_iff_toNat_lt.2 h))
  rcases hab with h|rfl|h
  ·have h1:¬b<a:=fun h'=>by have:=UInt8.lt_iff_toNat_lt.1 h;have:=UInt8.lt_iff_toNat_lt.1 h';omega
   have h2:b≠a:=fun h'=>by subst h';exact h1 h
   simp[Op.bytesLess,h,h1,h2]
  ·have h1:¬a<a:=fun h'=>by have:=UInt8.lt_iff_toNat_lt.1 h';omega
   simp only[Op.bytesLess,h1,decide_false,Bool.false_or,beq_self_eq_true,Bool.true_and]
   rw[←ih]
   congr 1
   simp
  ·have h1:¬a<b:=fun h'=>by have:=UInt8.lt_iff_toNat_lt.1 h;have:=UInt8.lt_iff_toNat_lt.1 h';omega
   have h2:a≠b:=fun h'=>by subst h';exact h1 h
   simp[Op.bytesLess,h,h1,h2]
theorem xu:∀x y z:List UInt8,Op.bytesLess x y=true→Op.bytesLess y z=true→Op.bytesLess x z=true
 |x,[],_,h1,_=>by cases x<;>simp[Op.bytesLess]at h1
 |_,b::y,[],_,h2=>by simp[Op.bytesLess]at h2
 |[],_::_,_::_,_,_=>rfl
 |a::x,b::y,c::z,h1,h2=>by
  simp only[Op.bytesLess,Bool.or_eq_true,decide_eq_true_eq,Bool.and_eq_true,beq_iff_eq]at h1 h2⊢
  rcases h1 with h1|⟨rfl,h1⟩
  ·rcases h2 with h2|⟨rfl,h2⟩
   ·exact .inl (UInt8.lt_iff_toNat_lt.2 (by have:=UInt8.lt_iff_toNat_lt.1 h1;have:=UInt8.lt_iff_toNat_lt.1 h2;omega))
   ·exact .inl h1
  ·rcases h2 with h2|⟨rfl,h2⟩
   ·exact .inl h2
   ·exact .inr ⟨rfl,xu x y z h1 h2⟩
theorem KD (x:List UInt8):Op.bytesLess x x=false:=by
 have:=Et x x
 cases h:Op.bytesLess x x with
 |false=>rfl
 |true=>rw[h]at this;simp at this
def gB (a b:ByteArray):Bool:=!dB b a
theorem z6 (a b:ByteArray):gB a b=true↔dB a b=true∨a.toList=b.toList:=by
 unfold gB dB
 rw[←Et,Bool.or_eq_true,beq_iff_eq]
theorem vE (a b c:ByteArray) (h1:gB a b=true) (h2:gB b c=true):gB a c=true:=by
 rw[z6]at h1 h2⊢
 unfold dB at*
 rcases h1 with h1|h1
 ·rcases h2 with h2|h2
  ·exact .inl (xu _ _ _ h1 h2)
  ·rw[←h2];exact .inl h1
 ·rw[h1];exact h2
theorem vF (a b:ByteArray):(gB a b||gB b a)=true:=by
 unfold gB
 cases h:dB b a with
 |false=>rfl
 |true=>
  have:dB a b=false:=by
   cases h2:dB a b with
   |false=>rfl
   |true=>
    have:=xu _ _ _ h h2
    rw[KD]at this;cases this
  rw[this];rfl
def oD (a b:cK):Bool:=gB a.name b.name
def iy (m:aF) (x:cK):aF:={m with seq:=m.seq+1,next:=m.next+1,aJ:=(m.aJ++[x]).mergeSort oD}
end Wl
namespace Wl
open Classical
theorem jQ (a:UInt8):a^^^a=0:=UInt8.xor_self
theorem IE (a b:UInt8):(a^^^b)^^^b=a:=by rw[UInt8.xor_assoc,jQ,UInt8.xor_zero]
theorem cA {c:UInt8} {a t:Row} (h:a.length=t.length) (j:Nat):bp (dA c a t) j=bp t j^^^Gf.mul c (bp a j):=by
 simp only[bp,dA,List.getD_eq_getElem?_getD,List.getElem?_zipWith]
 by_cases hj:j<a.length
 ·rw[List.getElem?_eq_getElem hj,List.getElem?_eq_getElem (by omega)];rfl
 ·rw[List.getElem?_eq_none (by omega),List.getElem?_eq_none (by omega)];simp[Gf.mul_zero]
theorem qz (c:UInt8) (a:Row) (j:Nat):bp (scaleB c a) j=Gf.mul c (bp a j):=by
 simp only[bp,scaleB,List.getD_eq_getElem?_getD,List.getElem?_map]
 cases a[j]? with
 |none=>simp[Gf.mul_zero]
 |some x=>rfl
def bY (n:Nat):Row:=List.replicate n 0
theorem fT (n j:Nat):bp (bY n) j=0:=by
 simp only[bp,bY,List.getD_eq_getElem?_getD,List.getElem?_replicate];split<;>rfl
theorem jt {n:Nat} {a b:Row} (ha:a.length=n) (hb:b.length=n) (h:∀j,j<n→bp a j=bp b j):a=b:=by
 apply List.ext_getElem (by omega)
 intro j h1 h2
 have:=h j (by omega)
 simpa[bp,List.getD_eq_getElem?_getD,List.getElem?_eq_getElem h1,List.getElem?_eq_getElem h2]using this
inductive Span (n:Nat) (m:bz):Row→Prop
 |zero:Span n m (bY n)
 |add (c:UInt8) (r v:Row):r∈m→Span n m v→Span n m (dA c r v)
section
variable {n:Nat} {m m':bz}
theorem Span.len (hm:bm n m) {v:Row} (h:Span n m v):v.length=n:=by
 induction h with
 |zero=>simp[bY]
 |add c r v hr _ ih=>rw[bN (by rw[hm r hr,ih])];exact ih
theorem Span.comb (hm:bm n m) {u v:Row} (hu:Span n m u) (hv:Span n m v) (c:UInt8):Span n m (dA c u v):=by
 induction hu with
 |zero=>
  have:dA c (bY n) v=v:=jt (n:=n) (by rw[bN (by simp[bY,hv.len hm])];exact hv.len hm) (hv.len hm) fun j _=>by
   rw[cA (by simp[bY,hv.len hm]),fT,Gf.mul_zero,UInt8.xor_zero]
  rw[this];exact hv
 |add d r w hr hw ih=>
  have l1:=hv.len hm;have l2:=hw.len hm;have l3:=hm r hr
  have:dA c (dA d r w) v=dA (Gf.mul c d) r (dA c w v):=jt (n:=n) (by rw[bN (by rw[bN (by omega)];omega)];exact l1) (by rw[bN (by rw[bN (by omega)];omega),bN (by omega)];exact l1) fun j _=>by
   rw[cA (by rw[bN (by omega)];omega),cA (by omega),cA (by rw[bN (by omega)];omega),cA (by omega),Gf.oQ,Gf.mul_assoc]
   ac_rfl
  rw[this];exact .add _ _ _ hr ih
theorem Span.row (hm:bm n m) {r:Row} (hr:r∈m):Span n m r:=by
 have:=Span.add 1 r _ hr (.zero (n:=n) (m:=m))
 have e:dA 1 r (bY n)=r:=jt (n:=n) (by rw[bN (by simp[bY,hm r hr])];simp[bY]) (hm r hr) fun j _=>by
  rw[cA (by simp[bY,hm r hr]),fT,Gf.one_mul,UInt8.zero_xor]
 rwa [e]at this
theorem Span.sub (hm:bm n m) (h:∀r∈m',Span n m r) {v:Row} (hv:Span n m' v):Span n m v:=by
 induction hv with
 |zero=>exact .zero
 |add c r v hr _ ih=>exact(h r hr).comb hm ih c
theorem Span.mono (h:∀r∈m',r∈m) {v:Row} (hv:Span n m' v):Span n m v:=by
 induction hv with
 |zero=>exact .zero
 |add c r v hr _ ih=>exact .add c r v (h r hr) ih
theorem Span.OS (hm:bm n m) (φ:Row→UInt8) (h0:φ (bY n)=0) (ha:∀c a t,a.length=n→t.length=n→φ (dA c a t)=φ t^^^Gf.mul c (φ a)) (hr:∀r∈m,φ r=0) {v:Row} (hv:Span n m v):φ v=0:=by
 induction hv with
 |zero=>exact h0
 |add c r v hr' hv ih=>rw[ha c r v (hm r hr') (hv.len hm),ih,hr r hr',Gf.mul_zero,UInt8.xor_zero]
end
def tg (S:Row→Prop) (j:Nat):Prop:=∃v,S v∧(∀i,i<j→bp v i=0)∧bp v j≠0
noncomputable def leads (S:Row→Prop) (n:Nat):Nat:=(List.range n).countP fun j=>decide (tg S j)
structure Way (n:Nat) (m:bz) (c top:Nat) (rows:bz):Prop where
 even:bm n rows
 len:rows.length=m.length
 tle:top≤rows.length
 span:∀v,Span n rows v↔Span n m v
 cnt:top=leads (Span n m) c
 piv:∃p:Nat→Nat,(∀i,i<top→p i<c)∧(∀i,i<top→∀k,k<rows.length→bp (aT rows k) (p i)=if k=i then 1 else 0)∧(∀i,i<top→∀j,j<p i→bp (aT rows i) j=0)∧(∀i j,i<j→j<top→p i<p j)
 low:∀k,top≤k→k<rows.length→∀j,j<c→bp (aT rows k) j=0
theorem mem_row {m:bz} {i:Nat} (h:i<m.length):aT m i∈m:=by rw[dm h];exact List.getElem_mem h
theorem fH {m:bz} {r:Row} (h:r∈m):∃i,i<m.length∧r=aT m i:=by
 obtain⟨i,hi,rfl⟩:=List.getElem_of_mem h
 exact⟨i,hi,(dm hi).symm⟩
theorem B1 {m:bz} {i j:Nat} {r:Row} (hi:i<m.length):aT (m.set i r) j=if i=j then r else aT m j:=by
 simp only[aT,List.getD_eq_getElem?_getD,List.getElem?_set]
 by_cases h:i=j
 ·subst h;simp[hi]
 ·simp[h]
theorem pk {m:bz} {i j k:Nat} (hi:i<m.length) (hj:j<m.length):aT (ga m i j) k=if k=j then aT m i else if k=i then aT m j else aT m k:=by
 rw[ga,B1 (by simpa using hj),B1 hi]
 by_cases h1:j=k
 ·rw[if_pos h1,if_pos h1.symm]
 ·rw[if_neg h1,if_neg (show¬k=j from fun h=>h1 h.symm)]
  by_cases h2:i=k
  ·rw[if_pos h2,if_pos h2.symm]
  ·rw[if_neg h2,if_neg (show¬k=i from fun h=>h2 h.symm)]
theorem th {m:bz} {t c k:Nat} (ht:t<m.length):aT (gC t c m) k=if t=k then scaleB (Gf.inv (bp (aT m t) c)) (aT m t)else aT m k:=by
 rw[gC,B1 ht]
section
variable {n:Nat} {m:bz}
theorem KE (hm:bm n m) {i j:Nat} (hi:i<m.length) (hj:j<m.length) (v:Row):Span n (ga m i j) v↔Span n m v:=by
 refine⟨Span.mono fun r hr=>?_,Span.mono fun r hr=>?_⟩
 ·obtain⟨k,hk,rfl⟩:=fH hr
  rw[iP]at hk
  rw[pk hi hj]
  split
  ·exact mem_row hi
  ·split
   ·exact mem_row hj
   ·exact mem_row hk
 ·obtain⟨k,hk,rfl⟩:=fH hr
  have e:∀x,x<m.length→aT (ga m i j) x∈ga m i j:=fun x hx=>mem_row (by rw[iP];exact hx)
  by_cases h1:k=i
  ·subst h1;have:=e j hj;rw[pk hi hj,if_pos rfl]at this;exact this
  ·by_cases h2:k=j
   ·subst h2;have:=e i hi;rw[pk hi hj]at this
    by_cases h3:i=k
    ·exact absurd h3.symm h1
    ·rw[if_neg h3,if_pos rfl]at this;exact this
   ·have:=e k hk;rw[pk hi hj,if_neg h2,if_neg h1]at this;exact this
theorem KF (hm:bm n m) {t c:Nat} (ht:t<m.length) (hne:bp (aT m t) c≠0) (v:Row):Span n (gC t c m) v↔Span n m v:=by
 have hev:=qw hm (c:=c) ht
 have hl:=cN hm ht
 have sc:∀(x:UInt8) (r:Row),r.length=n→scaleB x r=dA x r (bY n):=fun x r hr=>jt (n:=n) (by rw[qv,hr]) (by rw[bN (by simp[bY,hr])];simp[bY]) fun j _=>by
  rw[qz,cA (by simp[bY,hr]),fT,UInt8.zero_xor]
 refine⟨Span.sub hm fun r hr=>?_,Span.sub hev fun r hr=>?_⟩
 ·obtain⟨k,hk,rfl⟩:=fH hr
  rw[kM]at hk
  rw[th ht]
  split
  ·rw[sc _ _ hl];exact .add _ _ _ (mem_row ht) .zero
  ·exact Span.row hm (mem_row hk)
 ·obtain⟨k,hk,rfl⟩:=fH hr
  have e:∀x,x<m.length→Span n (gC t c m) (aT (gC t c m) x):=fun x hx=>Span.row hev (mem_row (by rw[kM];exact hx))
  by_cases h1:t=k
  ·subst h1
   have:=e t ht
   rw[th ht,if_pos rfl]at this
   have h2:=this.comb hev .zero (bp (aT m t) c)
   have e3:dA (bp (aT m t) c) (scaleB (Gf.inv (bp (aT m t) c)) (aT m t)) (bY n)=aT m t:=jt (n:=n) (by rw[bN (by simp[bY,qv,hl])];simp[bY]) hl fun j _=>by
    rw[cA (by simp[bY,qv,hl]),fT,UInt8.zero_xor,qz,←Gf.mul_assoc,Gf.BZ hne,Gf.one_mul]
   rw[e3]at h2;exact h2
  ·have:=e k hk;rw[th ht,if_neg h1]at this;exact this
theorem KG (hm:bm n m) {t c:Nat} (ht:t<m.length) (v:Row):Span n (dt t c m m.length) v↔Span n m v:=by
 have hev:=qx hm (c:=c) (k:=m.length) ht
 have hl:=cN hm ht
 refine⟨Span.sub hm fun r hr=>?_,Span.sub hev fun r hr=>?_⟩
 ·obtain⟨k,hk,rfl⟩:=fH hr
  rw[kN]at hk
  rw[mE hk]
  split
  ·exact .add _ _ _ (mem_row ht) (Span.row hm (mem_row hk))
  ·exact Span.row hm (mem_row hk)
 ·obtain⟨k,hk,rfl⟩:=fH hr
  have e:∀x,x<m.length→Span n (dt t c m m.length) (aT (dt t c m m.length) x):=fun x hx=>Span.row hev (mem_row (by rw[kN];exact hx))
  have et:=e t ht
  rw[mE ht,if_neg (by simp)]at et
  by_cases h1:k=t
  ·subst h1;exact et
  ·have h2:=e k hk
   rw[mE hk,if_pos ⟨hk,h1⟩]at h2
   have h3:=et.comb hev h2 (bp (aT m k) c)
   have hk':=cN hm hk
   have e3:dA (bp (aT m k) c) (aT m t) (dA (bp (aT m k) c) (aT m t) (aT m k))=aT m k:=jt (n:=n) (by rw[bN (by rw[bN (by omega)];omega),bN (by omega)];exact hk') hk' fun j _=>by
    rw[cA (by rw[bN (by omega)];omega),cA (by omega),IE]
   rw[e3]at h3;exact h3
def ib (f g:Nat→UInt8):Nat→UInt8
 |0=>0
 |k+1=>ib f g k^^^Gf.mul (f k) (g k)
theorem jR (f g:Nat→UInt8):∀k,(∀i,i<k→f i=0)→ib f g k=0
 |0,_=>rfl
 |k+1,h=>by rw[ib,jR f g k fun i hi=>h i (by omega),h k (by omega),Gf.zero_mul];rfl
theorem B2 (f g:Nat→UInt8) (x:Nat):∀k,x<k→(∀i,i<k→f i=if x=i then 1 else 0)→ib f g k=g x
 |0,hx,_=>by omega
 |k+1,hx,h=>by
  rw[ib]
  by_cases hk:x=k
  ·subst hk
   rw[jR f g x fun i hi=>by rw[h i (by omega),if_neg (by omega)],h x (by omega),if_pos rfl,Gf.one_mul,UInt8.zero_xor]
  ·rw[B2 f g x k (by omega) fun i hi=>h i (by omega),h k (by omega),if_neg hk,Gf.zero_mul,UInt8.xor_zero]
theorem B3 (f1 f2 g:Nat→UInt8) (c:UInt8):∀k,ib (fun i=>f1 i^^^Gf.mul c (f2 i)) g k=ib f1 g k^^^Gf.mul c (ib f2 g k)
 |0=>by simp[ib,Gf.mul_zero]
 |k+1=>by
  rw[ib,ib,ib,B3 f1 f2 g c k,Gf.oQ,Gf.IA,Gf.mul_assoc]
  ac_rfl
theorem z7 (S:Row→Prop) (c:Nat):leads S (c+1)=leads S c+if tg S c then 1 else 0:=by
 simp only[leads,List.range_succ,List.countP_append,List.countP_cons,List.countP_nil]
 by_cases h:tg S c<;>simp[h]
theorem KH (hm:bm n m):Way n m 0 0 m:=⟨hm,rfl,by omega,fun _=>Iff.rfl,by simp[leads],⟨fun _=>0,fun i hi=>by omega,fun i hi=>by omega,fun i hi=>by omega,fun i j _ hj=>by omega⟩,fun k _ _ j hj=>by omega⟩
theorem Mn (hm:bm n m) {c top:Nat} {rows:bz} (w:Way n m c top rows) (hc:c<n):Way n m (c+1) (gb (top,rows) c).1 (gb (top,rows) c).2:=by
 obtain⟨hev,hlen,htl,hsp,hcnt,⟨p,p1,p2,p3,p4⟩,hlow⟩:=w
 have hS:∀v,Span n rows v↔Span n m v:=hsp
 have hSeq:Span n rows=Span n m:=funext fun v=>propext (hS v)
 unfold gb
 dsimp only
 cases hb:fO rows top c with
 |none=>
  have hno:=GX hb
  dsimp only
  have hnl:¬tg (Span n m) c:=by
   rw[←hSeq]
   rintro⟨v,hv,hz,hne⟩
   apply hne
   have hφ:=Span.OS hev (fun v=>bp v c^^^ib (fun i=>bp v (p i)) (fun i=>bp (aT rows i) c) top) (by
     simp only[fT];rw[jR _ _ _ fun i _=>rfl];rfl) (fun x a t ha ht=>by
     simp only[cA (show a.length=t.length by omega)]
     rw[B3,Gf.oQ];ac_rfl) (fun r hr=>by
     obtain⟨k,hk,rfl⟩:=fH hr
     by_cases hkt:k<top
     ·rw[B2 _ _ k top hkt fun i hi=>by rw[p2 i hi k hk]];exact jQ _
     ·rw[hno k (by omega) hk,jR _ _ _ fun i hi=>by rw[p2 i hi k hk,if_neg (by omega)]];rfl) hv
   rw[jR _ _ _ fun i hi=>hz _ (p1 i hi),UInt8.xor_zero]at hφ
   exact hφ
  refine⟨hev,hlen,htl,hsp,by rw[z7,if_neg hnl,hcnt];rfl,⟨p,fun i hi=>by have:=p1 i hi;omega,p2,p3,p4⟩,fun k hk1 hk2 j hj=>?_⟩
  rcases Nat.lt_succ_iff_lt_or_eq.1 hj with h|rfl
  ·exact hlow k hk1 hk2 j h
  ·exact hno k hk1 hk2
 |some at_=>
  have hh:=nd hb
  obtain⟨h1,h2,h3⟩:=hh
  dsimp only
  have htt:top<rows.length:=by omega
  obtain⟨r1,hr1⟩:∃r1,r1=ga rows top at_:=⟨_,rfl⟩
  have l1:r1.length=rows.length:=by rw[hr1,iP]
  have ev1:bm n r1:=by rw[hr1];exact vy hev htt h2
  have q1:∀k,aT r1 k=if k=at_ then aT rows top else if k=top then aT rows at_ else aT rows k:=fun k=>by rw[hr1,pk htt h2]
  have q1t:aT r1 top=aT rows at_:=by
   rw[q1]
   by_cases h:top=at_
   ·rw[if_pos h,h]
   ·rw[if_neg h,if_pos rfl]
  have hne1:bp (aT r1 top) c≠0:=by rw[q1t];exact h3
  obtain⟨r2,hr2⟩:∃r2,r2=gC top c r1:=⟨_,rfl⟩
  have l2:r2.length=rows.length:=by rw[hr2,kM,l1]
  have ev2:bm n r2:=by rw[hr2];exact qw ev1 (by omega)
  have q2:∀k,aT r2 k=if top=k then scaleB (Gf.inv (bp (aT r1 top) c)) (aT r1 top)else aT r1 k:=fun k=>by rw[hr2,th (by omega)]
  have hz2:∀j,bp (aT r1 top) j=0→bp (aT r2 top) j=0:=fun j hj=>by rw[q2,if_pos rfl,qz,hj,Gf.mul_zero]
  have hone:bp (aT r2 top) c=1:=by rw[q2,if_pos rfl,qz,Gf.mul_comm,Gf.BZ hne1]
  obtain⟨r3,hr3⟩:∃r3,r3=dt top c r2 rows.length:=⟨_,rfl⟩
  have l3:r3.length=rows.length:=by rw[hr3,kN,l2]
  have q3:∀k,k<rows.length→∀j,bp (aT r3 k) j=if k=top then bp (aT r2 top) j else bp (aT r1 k) j^^^Gf.mul (bp (aT r1 k) c) (bp (aT r2 top) j):=fun k hk j=>by
   rw[hr3,mE (by omega)]
   by_cases h:k=top
   ·rw[if_neg (by omega),if_pos h,h]
   ·have e:=q2 k
    rw[if_neg (fun hh=>h hh.symm)]at e
    rw[if_pos ⟨hk,h⟩,if_neg h,cA (by rw[cN ev2 (by omega),cN ev2 (by omega)]),e]
  have low1:∀j,j<c→bp (aT r2 top) j=0:=fun j hj=>hz2 j (by rw[q1t];exact hlow at_ h1 h2 j hj)
  have keep:∀k,k<rows.length→∀j,j<c→bp (aT r3 k) j=if k=top then 0 else bp (aT r1 k) j:=fun k hk j hj=>by
   rw[q3 k hk,low1 j hj,Gf.mul_zero,UInt8.xor_zero]
  have old1:∀k,k<top→aT r1 k=aT rows k:=fun k hk=>by rw[q1,if_neg (by omega),if_neg (by omega)]
  have zer1:∀k,top≤k→k<rows.length→∀j,j<c→bp (aT r1 k) j=0:=fun k hk1 hk2 j hj=>by
   rw[q1]
   split
   ·exact hlow top (Nat.le_refl _) htt j hj
   ·split
    ·exact hlow at_ h1 h2 j hj
    ·exact hlow k hk1 hk2 j hj
  have hspan:∀v,Span n r3 v↔Span n m v:=fun v=>by
   rw[hr3,show rows.length=r2.length by omega,KG ev2 (by omega),hr2,KF ev1 (by omega) hne1,hr1,KE hev htt h2,hS]
  have hlead:tg (Span n m) c:=⟨aT r3 top,(hspan _).1 (Span.row (by rw[hr3];exact qx ev2 (by omega)) (mem_row (by omega))),fun j hj=>by rw[keep top htt j hj,if_pos rfl],by rw[q3 top htt,if_pos rfl,hone];decide⟩
  have hr3':dt top c (gC top c (ga rows top at_)) rows.length=r3:=by rw[hr3,hr2,hr1]
  rw[hr3']
  refine⟨by rw[hr3];exact qx ev2 (by omega),by omega,by omega,hspan,by rw[z7,if_pos hlead,hcnt],⟨fun i=>if i<top then p i else c,fun i hi=>?_,fun i hi k hk=>?_,fun i hi j hj=>?_,fun i j hij hj=>?_⟩,fun k hk1 hk2 j hj=>?_⟩
  ·dsimp only;split
   ·have:=p1 i (by assumption);omega
   ·omega
  ·dsimp only
   by_cases hit:i<top
   ·rw[if_pos hit,keep k (by omega) _ (p1 i hit)]
    by_cases hkt:k<top
    ·rw[if_neg (by omega),old1 k hkt];exact p2 i hit k (by omega)
    ·rw[if_neg (show¬k=i by omega)]
     split
     ·rfl
     ·exact zer1 k (by omega) (by omega) _ (p1 i hit)
   ·have hie:i=top:=by omega
    subst hie
    rw[if_neg hit,q3 k (by omega)]
    by_cases hki:k=i
    ·rw[if_pos hki,if_pos hki];exact hone
    ·rw[if_neg hki,if_neg hki,hone,Gf.mul_one];exact jQ _
  ·dsimp only at hj
   by_cases hit:i<top
   ·rw[if_pos hit]at hj
    have:=p1 i hit
    rw[keep i (by omega) j (by omega),if_neg (by omega),old1 i hit]
    exact p3 i hit j hj
   ·have hie:i=top:=by omega
    subst hie
    rw[if_neg hit]at hj
    rw[keep i (by omega) j hj,if_pos rfl]
  ·dsimp only
   rw[if_pos (show i<top by omega)]
   split
   ·exact p4 i j hij (by assumption)
   ·exact p1 i (by omega)
  ·rcases Nat.lt_succ_iff_lt_or_eq.1 hj with h|rfl
   ·rw[keep k (by omega) j h,if_neg (by omega)];exact zer1 k (by omega) (by omega) j h
   ·rw[q3 k (by omega),if_neg (by omega),hone,Gf.mul_one];exact jQ _
theorem B4 (hm:bm n m):∀c,c≤n→Way n m c (bB m c).1 (bB m c).2
 |0,_=>KH hm
 |c+1,h=>by rw[bB];exact Mn hm (B4 hm c (by omega)) (by omega)
theorem lD:∀c,bB [] c=(0,[])
 |0=>rfl
 |c+1=>by rw[bB,lD c];rfl
theorem oE (hm:bm n m):eZ m=leads (Span n m) n:=by
 rw[←(B4 hm n (Nat.le_refl _)).cnt,eZ]
 cases m with
 |nil=>rw[lD,lD]
 |cons x t=>rw[gz,dm (by simp)];rw[show((x::t)[0]).length=n from hm _ (by simp)]
end
section
variable {n:Nat} {m m':bz}
theorem Jk {S S':Row→Prop} (h:∀v,S v→S' v) (n:Nat):leads S n≤leads S' n:=by
 refine List.countP_mono_left fun j _ hj=>?_
 simp only[decide_eq_true_eq]at hj⊢
 obtain⟨v,h1,h2⟩:=hj
 exact⟨v,h v h1,h2⟩
theorem KI (hm:bm n m) (hm':bm n m') (h:∀r∈m,r∈m'):eZ m≤eZ m':=by
 rw[oE hm,oE hm'];exact Jk (fun v=>Span.mono h) n
theorem KJ {P Q:Nat→Bool} (l:List Nat) (hd:l.Nodup) (h1:∀a∈l,P a=true→Q a=true) (h2:∀a∈l,∀b∈l,Q a=true→P a=false→Q b=true→P b=false→a=b):l.countP Q≤l.countP P+1:=by
 induction l with
 |nil=>simp
 |cons x t ih=>
  rw[List.nodup_cons]at hd
  have ih':=ih hd.2 (fun a ha=>h1 a (by simp[ha])) (fun a ha b hb=>h2 a (by simp[ha]) b (by simp[hb]))
  simp only[List.countP_cons]
  cases hQ:Q x with
  |false=>
   have:(if P x=true then 1 else 0)≥0:=by omega
   simp;omega
  |true=>
   cases hP:P x with
   |true=>simp;omega
   |false=>
    have:t.countP Q≤t.countP P:=by
     refine List.countP_mono_left fun a ha hq=>?_
     cases hpa:P a with
     |true=>rfl
     |false=>
      have:=h2 x (by simp) a (by simp[ha]) hQ hP hq hpa
      subst this
      exact absurd ha hd.1
    simp;omega
theorem C3 (hm:bm n m) {r:Row} (hr:r.length=n) {v:Row} (hv:Span n (m++[r]) v):∃(c:UInt8) (u:Row),Span n m u∧v=dA c r u:=by
 have hev:bm n (m++[r]):=fun x hx=>by
  rcases List.mem_append.1 hx with h|h
  ·exact hm x h
  ·rw[List.mem_singleton.1 h];exact hr
 induction hv with
 |zero=>exact⟨0,bY n,.zero,(jt (n:=n) (by rw[bN (by simp[bY,hr])];simp[bY]) (by simp[bY]) fun j _=>by rw[cA (by simp[bY,hr]),fT,Gf.zero_mul];rfl).symm⟩
 |add d x w hx hw ih=>
  obtain⟨c,u,hu,rfl⟩:=ih
  have hul:=hu.len hm
  rcases List.mem_append.1 hx with h|h
  ·have hxl:=hm x h
   refine⟨c,dA d x u,.add d x u h hu,jt (n:=n) (by rw[bN (by rw[bN (by omega)];omega),bN (by omega)];exact hul) (by rw[bN (by rw[bN (by omega)];omega),bN (by omega)];exact hul) fun j _=>?_⟩
   rw[cA (by rw[bN (by omega)];omega),cA (by omega),cA (by rw[bN (by omega)];omega),cA (by omega)]
   ac_rfl
  ·have hxr:=List.mem_singleton.1 h
   subst hxr
   refine⟨c^^^d,u,hu,jt (n:=n) (by rw[bN (by rw[bN (by omega)];omega),bN (by omega)];exact hul) (by rw[bN (by omega)];exact hul) fun j _=>?_⟩
   rw[cA (by rw[bN (by omega)];omega),cA (by omega),cA (by omega),Gf.IA]
   ac_rfl
theorem KK (hm:bm n m) {r:Row} (hr:r.length=n):bm n (m++[r]):=fun x hx=>by
 rcases List.mem_append.1 hx with h|h
 ·exact hm x h
 ·rw[List.mem_singleton.1 h];exact hr
theorem KL (hm:bm n m) {r:Row} (hr:r.length=n):eZ m≤eZ (m++[r])∧eZ (m++[r])≤eZ m+1:=by
 have hev:=KK hm hr
 refine⟨KI hm hev fun x hx=>by simp[hx],?_⟩
 rw[oE hm,oE hev]
 refine KJ _ List.nodup_range (fun a _ ha=>?_) (fun a _ b _ qa pa qb pb=>?_)
 ·simp only[decide_eq_true_eq]at ha⊢
  obtain⟨v,h1,h2⟩:=ha
  exact⟨v,Span.mono (fun x hx=>by simp[hx]) h1,h2⟩
 ·simp only[decide_eq_true_eq,decide_eq_false_iff_not]at qa pa qb pb
  have key:∀a b,tg (Span n (m++[r])) a→¬tg (Span n m) a→tg (Span n (m++[r])) b→¬tg (Span n m) b→¬a<b:=by
   rintro a b ⟨v,hv,hz,hne⟩ pa ⟨w,hw,hzw,hnw⟩ pb hab
   obtain⟨c,u,hu,rfl⟩:=C3 hm hr hv
   obtain⟨d,u',hu',rfl⟩:=C3 hm hr hw
   have l1:=hu.len hm;have l2:=hu'.len hm
   have hd:d≠0:=by
    rintro rfl
    apply pb
    refine⟨u',hu',fun i hi=>?_,?_⟩
    ·have:=hzw i hi;rw[cA (by omega),Gf.zero_mul,UInt8.xor_zero]at this;exact this
    ·rw[cA (by omega),Gf.zero_mul,UInt8.xor_zero]at hnw;exact hnw
   apply pa
   refine⟨dA (Gf.mul c (Gf.inv d)) u' u,hu'.comb hm hu _,?_⟩
   have hval:∀j,bp (dA (Gf.mul c (Gf.inv d)) u' u) j=bp (dA c r u) j^^^Gf.mul (Gf.mul c (Gf.inv d)) (bp (dA d r u') j):=fun j=>by
    rw[cA (by omega),cA (by omega),cA (by omega),Gf.oQ,←Gf.mul_assoc (Gf.mul c (Gf.inv d)) d,Gf.mul_assoc c (Gf.inv d) d,Gf.mul_comm (Gf.inv d) d,Gf.BZ hd,Gf.mul_one]
    have:∀x y z:UInt8,x^^^y=x^^^z^^^(y^^^z):=fun x y z=>by
     have:x^^^z^^^(y^^^z)=x^^^y^^^(z^^^z):=by ac_rfl
     rw[this,jQ,UInt8.xor_zero]
    exact this _ _ _
   refine⟨fun i hi=>?_,?_⟩
   ·rw[hval,hz i hi,hzw i (by omega),Gf.mul_zero];rfl
   ·rw[hval,hzw a hab,Gf.mul_zero,UInt8.xor_zero];exact hne
  have h1:=key a b qa pa qb pb
  have h2:=key b a qb pb qa pa
  omega
theorem vG (m:bz) (h:bm n m):eZ m≤m.length:=by
 have key:∀k,k≤m.length→eZ (m.take k)≤k:=by
  intro k
  induction k with
  |zero=>intro _;simp[eZ,gz,aT,bB]
  |succ k ih=>
   intro hk
   have ht:bm n (m.take k):=fun x hx=>h x (List.mem_of_mem_take hx)
   have h1:=ih (by omega)
   rw[List.take_succ_eq_append_getElem (by omega)]
   have h2:=(KL ht (h _ (List.getElem_mem (show k<m.length by omega)))).2
   omega
 have:=key m.length (Nat.le_refl _)
 rwa [List.take_of_length_le (Nat.le_refl _)]at this
end
end Wl
namespace Wl
open Go
def Jl (p:Int×Int×Int) (seed:Int) (ids:List Int):Nat:=eZ (gy p seed ids)
def lE (p:Int×Int×Int) (seed:Int) (ids:List Int):Bool:=bU p&&((Jl p seed ids:Int)==dc p)
def ey (p:Int×Int×Int):List Int:=upto (max 0 (min p.1 16)).toNat
theorem E8 {p:Int×Int×Int} (h:bU p=true):dc p=p.1+p.2.1:=by rw[dc,if_pos h]
theorem C4 (p:Int×Int×Int) (seed:Int) (ids:List Int):bm (dc p).toNat (gy p seed ids):=by
 intro r hr
 unfold gy at hr
 split at hr
 ·rename_i hp
  have:=(cg p).1 hp
  rcases List.mem_append.1 hr with h|h
  ·obtain⟨x,_,rfl⟩:=List.mem_map.1 h
   rw[E2,E8 hp];omega
  ·obtain⟨x,_,rfl⟩:=List.mem_map.1 h
   exact Ml _ _ _
 ·cases hr
theorem Mo (p:Int×Int×Int) (seed:Int) (ids:List Int):(gy p seed ids).length≤4+ids.length:=by
 unfold gy
 split
 ·rename_i hp
  have:=(cg p).1 hp
  have h1:=List.length_filter_le cv ids
  simp only[List.length_append,cX,List.length_map,List.length_range]
  omega
 ·simp
end Wl
namespace Wl
def dM (a b:bz):bz:=List.zipWith (·++·) a b
def ic (n:Nat) (m:bz):bz:=m.map (List.take n)
theorem yW {r:Row} {n j:Nat} (h:j<n):bp (r.take n) j=bp r j:=by
 simp only[bp,List.getD_eq_getElem?_getD,List.getElem?_take];rw[if_pos h]
theorem Mp (r:Row) (n j:Nat):bp (r.drop n) j=bp r (n+j):=by
 simp only[bp,List.getD_eq_getElem?_getD,List.getElem?_drop]
theorem oS (n:Nat) (m:bz) (i:Nat):aT (ic n m) i=(aT m i).take n:=by
 simp only[aT,ic,List.getD_eq_getElem?_getD,List.getElem?_map]
 cases m[i]? with
 |none=>simp
 |some r=>rfl
theorem B5 (n:Nat) (m:bz):(ic n m).length=m.length:=by simp[ic]
theorem Jm {n top bs:Nat} (m:bz) (h:bs<n):fO (ic n m) top bs=fO m top bs:=by
 unfold fO
 rw[B5]
 congr 1
 funext i
 rw[oS,yW h]
theorem B6 (n:Nat) (m:bz) (i:Nat) (r:Row):ic n (m.set i r)=(ic n m).set i (r.take n):=by simp[ic,List.map_set]
theorem Mq (n:Nat) (m:bz) (i j:Nat):ic n (ga m i j)=ga (ic n m) i j:=by
 rw[ga,B6,B6,ga,oS,oS]
theorem KM (n:Nat) (c:UInt8) (r:Row):(scaleB c r).take n=scaleB c (r.take n):=by simp[scaleB,List.map_take]
theorem NZ (n:Nat) (c:UInt8) (a t:Row):(dA c a t).take n=dA c (a.take n) (t.take n):=by simp[dA,List.take_zipWith]
theorem Mr {n bs:Nat} (h:bs<n) (t:Nat) (m:bz):ic n (gC t bs m)=gC t bs (ic n m):=by
 rw[gC,B6,KM,gC,oS,yW h]
theorem Ms {n bs:Nat} (h:bs<n) (t k:Nat) (m:bz):ic n (dt t bs m k)=dt t bs (ic n m) k:=by
 apply List.ext_getElem?
 intro i
 simp only[ic,dt,List.getElem?_map,List.getElem?_mapIdx]
 cases m[i]? with
 |none=>rfl
 |some r=>
  simp only[Option.map_some]
  congr 1
  have:=oS n m t
  rw[ic]at this
  rw[this,yW h]
  split
  ·exact NZ _ _ _ _
  ·rfl
theorem Mt {n bs:Nat} (h:bs<n) (s:Nat×bz):((gb s bs).1,ic n (gb s bs).2)=gb (s.1,ic n s.2) bs:=by
 unfold gb
 dsimp only
 rw[Jm _ h]
 cases fO s.2 s.1 bs with
 |none=>rfl
 |some i=>dsimp only;rw[Ms h,Mr h,Mq,B5]
theorem z8 (n:Nat) (m:bz):∀c,c≤n→((bB m c).1,ic n (bB m c).2)=bB (ic n m) c
 |0,_=>rfl
 |c+1,h=>by
  have ih:=z8 n m c (by omega)
  rw[bB,bB,Mt (show c<n by omega),ih]
theorem j4 {a b:bz} (h:a.length=b.length):(dM a b).length=a.length:=by simp[dM,h]
theorem xv {a b:bz} (h:a.length=b.length) {i:Nat} (hi:i<a.length):aT (dM a b) i=aT a i++aT b i:=by
 rw[dm (by rw[j4 h];exact hi),dm hi,dm (by omega)];simp[dM]
theorem mG {n w:Nat} {a b:bz} (h:a.length=b.length) (ha:bm n a) (hb:bm w b):bm (n+w) (dM a b):=fun r hr=>by
 obtain⟨i,hi,rfl⟩:=fH hr
 rw[j4 h]at hi
 rw[xv h hi,List.length_append,cN ha hi,cN hb (by omega)]
theorem N0 {n:Nat} {a b:bz} (h:a.length=b.length) (ha:bm n a):ic n (dM a b)=a:=by
 apply List.ext_getElem (by rw[B5,j4 h])
 intro i h1 h2
 have:=oS n (dM a b) i
 rw[dm h1,xv h h2,List.take_left' (cN ha h2),dm h2]at this
 exact this
theorem Mu {n:Nat} {a:bz} (ha:bm n a):(bB a n).1=eZ a:=by
 rw[eZ]
 cases a with
 |nil=>rw[lD,lD]
 |cons x t=>rw[gz,dm (by simp)];rw[show((x::t)[0]).length=n from ha _ (by simp)]
theorem E9 {n:Nat} {a b:bz} (h:a.length=b.length) (ha:bm n a):(bB (dM a b) n).1=eZ a:=by
 have:=congrArg Prod.fst (z8 n (dM a b) n (Nat.le_refl _))
 rw[N0 h ha]at this
 rw[←Mu ha];exact this
def tj (w:Nat) (r:Row) (X:bz):Nat→Row
 |0=>bY w
 |k+1=>dA (bp r k) (aT X k) (tj w r X k)
theorem yX {n w:Nat} {X:bz} (hX:bm w X) (hl:X.length=n) (r:Row):∀k,k≤n→(tj w r X k).length=w
 |0,_=>by simp[tj,bY]
 |k+1,h=>by
  have ih:=yX hX hl r k (by omega)
  rw[tj,bN (by rw[cN hX (by omega),ih])];exact ih
theorem yY {n w:Nat} {X:bz} (hX:bm w X) (hl:X.length=n) (r:Row) (j:Nat):∀k,k≤n→bp (tj w r X k) j=ib (fun i=>bp r i) (fun i=>bp (aT X i) j) k
 |0,_=>by rw[tj,fT];rfl
 |k+1,h=>by
  have ih:=yY hX hl r j k (by omega)
  rw[tj,cA (by rw[cN hX (by omega),yX hX hl r k (by omega)]),ih];rfl
def vH (n w:Nat) (a b X:bz):Prop:=X.length=n∧bm w X∧∀i,i<a.length→tj w (aT a i) X n=aT b i
def po (n:Nat) (X:bz) (k:Nat) (v:Row):UInt8:=bp v (n+k)^^^ib (fun i=>bp v i) (fun i=>bp (aT X i) k) n
theorem oF {f f' g g':Nat→UInt8}:∀k,(∀i,i<k→f i=f' i)→(∀i,i<k→g i=g' i)→ib f g k=ib f' g' k
 |0,_,_=>rfl
 |k+1,h1,h2=>by rw[ib,ib,oF k (fun i hi=>h1 i (by omega)) (fun i hi=>h2 i (by omega)),h1 k (by omega),h2 k (by omega)]
theorem IF (n:Nat) (X:bz) (k:Nat) (c:UInt8) (a t:Row) (h:a.length=t.length):po n X k (dA c a t)=po n X k t^^^Gf.mul c (po n X k a):=by
 unfold po
 rw[cA h]
 have:ib (fun i=>bp (dA c a t) i) (fun i=>bp (aT X i) k) n=ib (fun i=>bp t i^^^Gf.mul c (bp a i)) (fun i=>bp (aT X i) k) n:=oF n (fun i _=>cA h i) fun _ _=>rfl
 rw[this,B3,Gf.oQ];ac_rfl
theorem IG {a b:Row} {n:Nat} (ha:a.length=n) (k:Nat):bp (a++b) (n+k)=bp b k:=by
 simp only[bp,List.getD_eq_getElem?_getD]
 rw[List.getElem?_append_right (by omega),ha,Nat.add_sub_cancel_left]
theorem Fa {a b:Row} {n j:Nat} (ha:a.length=n) (hj:j<n):bp (a++b) j=bp a j:=by
 simp only[bp,List.getD_eq_getElem?_getD]
 rw[List.getElem?_append_left (by omega)]
theorem vI {a b:UInt8}:a^^^b=0↔a=b:=by
 constructor
 ·intro h
  have:=congrArg (·^^^b) h
  simp only[UInt8.zero_xor]at this
  rwa [IE]at this
 ·rintro rfl;exact jQ _
theorem Jn {n w:Nat} {a b X:bz} (h:a.length=b.length) (ha:bm n a) (hb:bm w b) (hl:X.length=n) (hX:bm w X):vH n w a b X↔∀k,k<w→∀v,Span (n+w) (dM a b) v→po n X k v=0:=by
 have hev:=mG h ha hb
 constructor
 ·intro hs k hk v hv
  refine Span.OS hev (po n X k) ?_ (fun c a t h1 h2=>IF n X k c a t (by omega)) (fun r hr=>?_) hv
  ·unfold po
   rw[fT,jR _ _ n fun i _=>fT _ _];rfl
  ·obtain⟨i,hi,rfl⟩:=fH hr
   rw[j4 h]at hi
   rw[xv h hi]
   unfold po
   rw[IG (cN ha hi),←hs.2.2 i hi,yY hX hl _ k n (Nat.le_refl _),vI]
   exact oF n (fun j hj=>(Fa (cN ha hi) hj).symm) fun _ _=>rfl
 ·intro hp
  refine⟨hl,hX,fun i hi=>jt (n:=w) (yX hX hl _ n (Nat.le_refl _)) (cN hb (by omega)) fun k hk=>?_⟩
  have:=hp k hk _ (Span.row hev (mem_row (show i<(dM a b).length by rw[j4 h];exact hi)))
  rw[xv h hi]at this
  unfold po at this
  rw[IG (cN ha hi),vI]at this
  rw[this,yY hX hl _ k n (Nat.le_refl _)]
  exact oF n (fun j hj=>(Fa (cN ha hi) hj).symm) fun _ _=>rfl
theorem OT {n:Nat} {p:Nat→Nat} (h1:∀i,i<n→p i<n) (h2:∀i j,i<j→j<n→p i<p j):∀i,i<n→p i=i:=by
 have lo:∀i,i<n→i≤p i:=by
  intro i
  induction i with
  |zero=>intro _;omega
  |succ i ih=>intro hi;have:=ih (by omega);have:=h2 i (i+1) (by omega) hi;omega
 have up:∀k i,i+k+1=n→p i≤i:=by
  intro k
  induction k with
  |zero=>intro i hi;have:=h1 i (by omega);omega
  |succ k ih=>intro i hi;have:=ih (i+1) (by omega);have:=h2 i (i+1) (by omega) (by omega);omega
 intro i hi
 have:=lo i hi
 have:=up (n-1-i) i (by omega)
 omega
def jS (n:Nat) (a b:bz):bz:=(((bB (dM a b) n).2).take n).map (List.drop n)
def Nz (n:Nat) (a b:bz):Prop:=∀r∈((bB (dM a b) n).2).drop n,r=bY r.length
section
variable {n w:Nat} {a b:bz}
theorem B7 (h:a.length=b.length) (ha:bm n a) (hb:bm w b) (hr:eZ a=n):(jS n a b).length=n∧bm w (jS n a b):=by
 have hev:=mG h ha hb
 have h2:=ia hev n
 have h3:=vG a ha
 refine⟨by rw[jS,List.length_map,List.length_take,h2.2,j4 h];omega,fun r hr'=>?_⟩
 obtain⟨x,hx,rfl⟩:=List.mem_map.1 hr'
 rw[List.length_drop,h2.1 x (List.mem_of_mem_take hx)];omega
theorem N1 (h:a.length=b.length) (ha:bm n a) (hr:eZ a=n) {i:Nat} (hi:i<n):aT (jS n a b) i=(aT (bB (dM a b) n).2 i).drop n:=by
 simp only[aT,jS,List.getD_eq_getElem?_getD,List.getElem?_map,List.getElem?_take]
 rw[if_pos hi]
 cases(bB (dM a b) n).2[i]? with
 |none=>simp
 |some r=>rfl
theorem Mv (h:a.length=b.length) (ha:bm n a) (hb:bm w b) (hr:eZ a=n):
  (∀v,Span (n+w) (bB (dM a b) n).2 v↔Span (n+w) (dM a b) v)∧(bB (dM a b) n).2.length=a.length∧(∀i,i<n→∀k,k<a.length→bp (aT (bB (dM a b) n).2 k) i=if k=i then 1 else 0):=by
 have hev:=mG h ha hb
 have W:=B4 hev n (by omega)
 have ht:(bB (dM a b) n).1=n:=by rw[E9 h ha,hr]
 obtain⟨p,p1,p2,p3,p4⟩:=W.piv
 rw[ht]at p1 p2 p3 p4
 have hid:=OT p1 p4
 have hl:(bB (dM a b) n).2.length=a.length:=by rw[W.len,j4 h]
 refine⟨W.span,hl,fun i hi k hk=>?_⟩
 have:=p2 i hi k (by omega)
 rwa [hid i hi]at this
theorem Mw {X:bz} {r:Row} {i k:Nat} (hi:i<n) (hr:∀j,j<n→bp r j=if i=j then 1 else 0):po n X k r=bp r (n+k)^^^bp (aT X i) k:=by
 unfold po
 rw[B2 _ _ i n hi fun j hj=>hr j hj]
theorem N3 {X:bz} {r:Row} {k:Nat} (hr:∀j,j<n→bp r j=0):po n X k r=bp r (n+k):=by
 unfold po
 rw[jR _ _ n hr,UInt8.xor_zero]
theorem Jo (h:a.length=b.length) (ha:bm n a) (hb:bm w b) (hr:eZ a=n) (hc:Nz n a b):vH n w a b (jS n a b):=by
 have hev:=mG h ha hb
 have h2:=ia hev n
 obtain⟨hsp,hl,hd⟩:=Mv h ha hb hr
 have hle:=vG a ha
 obtain⟨s1,s2⟩:=B7 h ha hb hr
 refine(Jn h ha hb s1 s2).2 fun k hk v hv=>?_
 refine Span.OS h2.1 (po n (jS n a b) k) ?_ (fun c x t h1 h2=>IF n _ k c x t (by omega)) (fun r hr'=>?_) ((hsp v).2 hv)
 ·unfold po
  rw[fT,jR _ _ n fun i _=>fT _ _];rfl
 ·obtain⟨i,hi,rfl⟩:=fH hr'
  by_cases hin:i<n
  ·rw[Mw hin fun j hj=>hd j hj i (by omega),N1 h ha hr hin,Mp];exact jQ _
  ·rw[N3 fun j hj=>by rw[hd j hj i (by omega),if_neg (by omega)]]
   have:aT (bB (dM a b) n).2 i∈(bB (dM a b) n).2.drop n:=by
    rw[dm hi]
    obtain⟨d,rfl⟩:∃d,i=n+d:=⟨i-n,by omega⟩
    rw[←List.getElem_drop (h:=by rw[List.length_drop];omega)]
    exact List.getElem_mem _
   rw[hc _ this,fT]
theorem GY (h:a.length=b.length) (ha:bm n a) (hb:bm w b) (hn:a.length=n):Nz n a b:=by
 have hev:=mG h ha hb
 have h2:=ia hev n
 intro r hr
 rw[List.drop_of_length_le (by rw[h2.2,j4 h];omega)]at hr
 cases hr
end
end Wl
namespace Wl
def kj (w:Nat) (X:bz) (l:List Int):Row:=l.foldl (fun s c=>dA 1 (aT X c.toNat) s) (bY w)
theorem Fb (w:Nat) (X:bz) (l:List Int) (c:Int):kj w X (l++[c])=dA 1 (aT X c.toNat) (kj w X l):=by rw[kj,List.foldl_append];rfl
theorem vJ {n w:Nat} {X:bz} (hX:bm w X) (hl:X.length=n) {l:List Int} (hin:∀x∈l,0≤x∧x<(n:Int)):∀k,k≤l.length→(kj w X (l.take k)).length=w:=by
 intro k
 induction k with
 |zero=>intro _;simp[kj,bY]
 |succ k ih=>
  intro hk
  have hx:=hin _ (List.getElem_mem (show k<l.length by omega))
  rw[List.take_succ_eq_append_getElem (by omega),Fb,bN (by rw[cN hX (by omega),ih (by omega)])]
  exact ih (by omega)
theorem N4 {n w:Nat} {X:bz} (hX:bm w X) (hl:X.length=n) {l:List Int} (hin:∀x∈l,0≤x∧x<(n:Int)):(kj w X l).length=w:=by
 have:=vJ hX hl hin l.length (Nat.le_refl _)
 rwa [List.take_of_length_le (Nat.le_refl _)]at this
end Wl
namespace Wl
open Go Go.Vc
def fx (K H w:Nat) (d:Row):bz:=List.replicate H (bY w)++(List.range K).map (Kl d w)
def iU (p:Int×Int×Int) (seed:Int) (d:Row):bz:=jS (dc p).toNat (gy p seed (ey p)) (fx p.1.toNat p.2.1.toNat p.2.2.toNat d)
structure bZ (p:Int×Int×Int) (seed:Int) (d:Row) (K H w n:Nat):Prop where
 may:bU p=true
 full:lE p seed (ey p)=true
 k:p.1=K
 h:p.2.1=H
 s:p.2.2=w
 n:n=K+H
 k1:1≤K
 k2:K≤16
 h1:1≤H
 h2:H≤4
 w1:1≤w
 w2:w≤24
 len:d.length=K*w
theorem NA {p:Int×Int×Int} {seed:Int} {d:Row} (hm:bU p=true) (hf:lE p seed (ey p)=true) (hl:(d.length:Int)=p.1*p.2.2):∃K H w n,bZ p seed d K H w n:=by
 have:=(cg p).1 hm
 refine⟨p.1.toNat,p.2.1.toNat,p.2.2.toNat,p.1.toNat+p.2.1.toNat,hm,hf,by omega,by omega,by omega,rfl,by omega,by omega,by omega,by omega,by omega,by omega,?_⟩
 have e1:p.1=(p.1.toNat:Int):=by omega
 have e2:p.2.2=(p.2.2.toNat:Int):=by omega
 rw[e1,e2,←Int.natCast_mul]at hl
 exact Int.ofNat.inj hl
section
variable {p:Int×Int×Int} {seed:Int} {d:Row} {K H w n:Nat}
theorem bZ.pq (B:bZ p seed d K H w n):dc p=n:=by rw[E8 B.may,B.k,B.h,B.n];rfl
theorem bZ.xw (B:bZ p seed d K H w n):(dc p).toNat=n:=by rw[B.pq];rfl
theorem Jp (hK:p.1=(K:Int)) (h:K≤16):ey p=upto K:=by
 rw[ey];congr 1;omega
theorem GZ (h:K≤16):(upto K).filter cv=upto K:=by
 rw[List.filter_eq_self]
 intro x hx
 simp[upto]at hx
 obtain⟨a,ha,rfl⟩:=hx
 simp[cv];omega
theorem bZ.Ix (B:bZ p seed d K H w n):gy p seed (ey p)=cX K H++(List.range K).map fun i:Nat=>B0 n seed (i:Int):=by
 rw[gy,if_pos B.may,Jp B.k B.k2,GZ B.k2,B.k,B.h,B.xw,Int.toNat_natCast,Int.toNat_natCast,upto,List.map_map]
 rfl
theorem bZ.Aa (B:bZ p seed d K H w n):(gy p seed (ey p)).length=n:=by
 rw[B.Ix,List.length_append,List.length_map,List.length_range,cX,List.length_map,List.length_range,B.n];omega
theorem bZ.xx (B:bZ p seed d K H w n):bm n (gy p seed (ey p)):=by
 have:=C4 p seed (ey p)
 rwa [B.xw]at this
theorem bZ.Mx (B:bZ p seed d K H w n):eZ (gy p seed (ey p))=n:=by
 have h:=B.full
 rw[lE,B.may,B.pq,Jl]at h
 simp at h
 exact Int.ofNat.inj h
theorem vK (K H w:Nat) (d:Row):(fx K H w d).length=K+H:=by simp[fx];omega
theorem oG (hl:d.length=K*w):bm w (fx K H w d):=fun r hr=>by
 rcases List.mem_append.1 hr with h|h
 ·rw[(List.mem_replicate.1 h).2];simp[bY]
 ·obtain⟨i,hi,rfl⟩:=List.mem_map.1 h
  rw[List.mem_range]at hi
  exact NU (by rw[hl];exact Nat.mul_le_mul_right w hi)
theorem KN {i:Nat} (hi:i<H):aT (fx K H w d) i=bY w:=by
 rw[aT,fx,List.getD_eq_getElem?_getD,List.getElem?_append_left (by simpa using hi)];simp[hi]
theorem bZ.uh (B:bZ p seed d K H w n):iU p seed d=jS n (gy p seed (ey p)) (fx K H w d):=by
 rw[iU,B.xw,B.k,B.h,B.s];rfl
theorem bZ.lens (B:bZ p seed d K H w n):(gy p seed (ey p)).length=(fx K H w d).length:=by rw[B.Aa,vK,B.n]
theorem bZ.Ab (B:bZ p seed d K H w n):(iU p seed d).length=n∧bm w (iU p seed d):=by
 rw[B.uh];exact B7 B.lens B.xx (oG B.len) B.Mx
theorem bZ.vH (B:bZ p seed d K H w n):vH n w (gy p seed (ey p)) (fx K H w d) (iU p seed d):=by
 rw[B.uh]
 exact Jo B.lens B.xx (oG B.len) B.Mx (GY B.lens B.xx (oG B.len) B.Aa)
theorem bZ.OU (B:bZ p seed d K H w n) {i:Nat} (hi:i<H):aT (gy p seed (ey p)) i=jM K H i:=by
 rw[B.Ix,aT,List.getD_eq_getElem?_getD,List.getElem?_append_left (by simpa[cX]using hi)];simp[cX,hi]
theorem bZ.low (B:bZ p seed d K H w n) {i:Nat} (hi:i<H):tj w (jM K H i) (iU p seed d) n=bY w:=by
 have:=B.vH.2.2 i (by rw[B.Aa,B.n];omega)
 rwa [B.OU hi,KN hi]at this
theorem bZ.n1 (B:bZ p seed d K H w n):1≤n:=by have:=B.n;have:=B.k1;omega
theorem bZ.n2 (B:bZ p seed d K H w n):n≤20:=by have:=B.n;have:=B.k2;have:=B.h2;omega
theorem bZ.OV (B:bZ p seed d K H w n) (id:Int):(kj w (iU p seed d) (iT n seed id)).length=w:=
 N4 B.Ab.2 B.Ab.1 fun _ hx=>vx B.n1 B.n2 hx
end
end Wl
namespace Go.Vc
open Go
theorem G0 {α:Type} {e2 k:Nat} {f:α→List Value}:∀{rs:List Sl} {ll:List (List α)} (rs':List Sl) (ll':List (List α)),rs.length=ll.length→bG e2 k f (rs++rs') (ll++ll')=bG e2 k f rs ll++bG e2 k f rs' ll':=by
 intro rs ll rs' ll' h
 unfold bG
 exact List.zipWith_append h
theorem aa.My {B:au} {h0 h:Heap} {X:HP}:∀{L M:List HP},aa B h0 h (L++X::M)→aa B h0 h (L++M):=fun{L M} H=>by
 have:=H.del L.length
 rwa [List.eraseIdx_append_of_length_le (Nat.le_refl _),Nat.sub_self,List.eraseIdx_cons_zero]at this
section
variable {α:Type} {C:Ctx} {B:au} {h0 h h':Heap} {As:List HP} {e e2 k t t2 by_:Nat} {s s2:Sl} {f:α→List Value} {ll l2:List (List α)}
theorem aa.N5 (hC:C.Ok) (H:aa B h0 h (eV e s e2 k f ll::eV e s2 e2 k f l2::As)) (he:bM C.torD t e 1 [.slice none 0 0] 24) (h2:∃i e2,C.T.get t2=some i∧i.bV=.slice e2) (hsz:ll.length+l2.length≤2^32) {ty:Nat} {K:Sl→Heap→Prop}
  (hk:∀s' h',aa B h0 h' (eV e s' e2 k f (ll++l2)::As)→K s' h'):
  az C.P (Builtin.append_ #[t,t2] ty #[.slice s.ptr s.len s.cap,.slice s2.ptr s2.len s2.cap]) (.one (.sc .slc)) h K:=by
 obtain⟨rs,hl,H1⟩:=H.zR
 obtain⟨L1,hL1⟩:∃L1,L1=bG e2 k f rs ll:=⟨_,rfl⟩
 rw[←hL1]at H1
 have H2:aa B h0 h (eV e s2 e2 k f l2::(As++(an e s 1 cy rs::L1))):=H1.front
 obtain⟨rs2,hl2,H3⟩:=H2.zR
 obtain⟨L2,hL2⟩:∃L2,L2=bG e2 k f rs2 l2:=⟨_,rfl⟩
 rw[←hL2]at H3
 have H4:=H3.front
 rw[List.append_assoc]at H4
 have H5:=H4.front
 have H6:aa B h0 h (an e s 1 cy rs::(L1++(an e s2 1 cy rs2::(L2++As)))):=by
  have e0:(an e s 1 cy rs::L1++(an e s2 1 cy rs2::L2))++As=an e s 1 cy rs::(L1++(an e s2 1 cy rs2::(L2++As))):=by simp
  rw[←e0];exact H5
 have hv:Seq h (fun b=>b<h.size) s2 1 cy rs2:=H6.seq (L1.length+1) (by rw[List.getElem?_cons_succ,List.getElem?_append_right (Nat.le_refl _),Nat.sub_self];rfl) fun _=>rfl
 refine H6.append hC 0 rfl he h2 rfl (by decide) (fun _=>rfl) hv o6 (by omega) fun s' h' H7=>hk s' h' ?_
 have H7:aa B h0 h' ((an e s' 1 cy (rs++rs2)::L1)++(an e s2 1 cy rs2::(L2++As))):=H7
 have H8:=aa.My H7
 refine aa.EU (rs:=rs++rs2) (by simp[hl,hl2]) ?_
 rw[G0 rs2 l2 hl,←hL1,←hL2]
 have e1:(an e s' 1 cy (rs++rs2)::(L1++L2))++As=(an e s' 1 cy (rs++rs2)::L1)++(L2++As):=by simp
 rw[e1];exact H8
end
end Go.Vc
namespace Go.Vc
open Go
abbrev fb:=FloatKind.format .f64
theorem vL {P:Program} {a b c:Nat} (h:fb.add a b=some c):ar P (Op.Complex.arith .add .f64 a b) c:=fun w=>by
 have h':(FloatKind.format .f64).add a b=some c:=h
 unfold Op.Complex.arith Op.floatArith
 simp only[h']
 rfl
theorem vM {P:Program} {a b c:Nat} (h:fb.sub a b=some c):ar P (Op.Complex.arith .sub .f64 a b) c:=fun w=>by
 have h':(FloatKind.format .f64).sub a b=some c:=h
 unfold Op.Complex.arith Op.floatArith
 simp only[h']
 rfl
theorem qA {P:Program} {a b c:Nat} (h:fb.mul a b=some c):ar P (Op.Complex.arith .mul .f64 a b) c:=fun w=>by
 have h':(FloatKind.format .f64).mul a b=some c:=h
 unfold Op.Complex.arith Op.floatArith
 simp only[h']
 rfl
theorem q7 {P:Program} {op:BinOp} (h:op=.add∨op=.sub∨op=.mul) (t:TypeId) (x y:Operand) (a b:Value):ar P (eqGuard op t x y a b) ():=fun w=>by
 rcases h with rfl|rfl|rfl<;>rfl
theorem N6 {P:Program} {t:TypeId} {x y:Operand} {a b c d e f:Nat} (h1:fb.add a c=some e) (h2:fb.add b d=some f):iB P .add t x y (.complex .f64 a b) (.complex .f64 c d) (.complex .f64 e f):=
 (q7 (.inl rfl) t x y _ _).bind (show ar P (Op.complexOp .add .f64 a b c d) _ from(vL h1).bind ((vL h2).bind fun _=>rfl))
theorem N7 {P:Program} {t:TypeId} {x y:Operand} {a b c d e f:Nat} (h1:fb.sub a c=some e) (h2:fb.sub b d=some f):iB P .sub t x y (.complex .f64 a b) (.complex .f64 c d) (.complex .f64 e f):=
 (q7 (.inr (.inl rfl)) t x y _ _).bind (show ar P (Op.complexOp .sub .f64 a b c d) _ from(vM h1).bind ((vM h2).bind fun _=>rfl))
theorem N8 {P:Program} {t:TypeId} {x y:Operand} {a b c d e f m1 m2 m3 m4:Nat} (h1:fb.mul a c=some m1) (h2:fb.mul b d=some m2) (h3:fb.sub m1 m2=some e) (h4:fb.mul a d=some m3) (h5:fb.mul b c=some m4) (h6:fb.add m3 m4=some f):
  iB P .mul t x y (.complex .f64 a b) (.complex .f64 c d) (.complex .f64 e f):=by
 refine(q7 (.inr (.inr rfl)) t x y _ _).bind ?_
 have hp:ar P (Op.Complex.product a b c d) (e,f):=
  (qA h1).bind ((qA h2).bind ((vM h3).bind ((qA h4).bind ((qA h5).bind ((vL h6).bind fun _=>rfl)))))
 show ar P (Op.complexOp .mul .f64 a b c d) _
 have hc:∀x,ar P (Op.Complex.conv .f64 x .f64) x:=fun x w=>by unfold Op.Complex.conv;rw[if_pos rfl];rfl
 unfold Op.complexOp
 refine(hc a).bind ((hc b).bind ((hc c).bind ((hc d).bind ?_)))
 refine ar.bind (v:=(e,f)) ?_ ?_
 ·exact hp
 ·exact(hc e).bind ((hc f).bind fun _=>rfl)
end Go.Vc
