/- Part of the proofs that the laws of this seat answer true whatever the input reads, and leave it as it was; no condition. -/
import Derived.Test.YtdhamoojccmbdaaGreatDoorPlD
import Derived.Test.YtdhamoojccmbdaaGreatDoorPlA
set_option linter.unusedVariables false
set_option linter.unusedSimpArgs false
namespace Wl
open Go
def pG (o b t:Int):Int:=(128*o+16*b+t)%4294967296
def jG (m:aP) (r:dh):Bool:=ji r&&(decide (r.p=m.p)&&m.aB.any fun x=>decide (x.object=r.object)&&(decide (r.block<(x.tries.length:Int))&&decide (r.seed=pG r.object r.block (x.tries.getD r.block.toNat 0))))
def zG (a b:dh):Bool:=decide (a.object<b.object∨(a.object=b.object∧(a.block<b.block∨(a.block=b.block∧a.id≤b.id))))
def zH (a b:dh):Bool:=decide (a.object=b.object∧a.block=b.block∧a.id=b.id)
def pH:dh:=⟨0,0,0,(0,0,0),0,[]⟩
def pI (l:List dh) (k:Nat):Bool:=decide (k=0)||!zH (l.getD k pH) (l.getD (k-1) pH)
def qE (l:List dh):List dh:=((List.range l.length).filter (pI l)).map fun i=>l.getD i pH
def eK (m:aP) (c:List UInt8):Option dh:=match dv c with|some r=>if jG m r then some r else none|none=>none
def gP (m:aP) (l:List (List UInt8)):List dh:=qE ((l.filterMap (eK m)).mergeSort zG)
theorem wg (m:aP) (l:List (List UInt8)) (i:Nat) (hi:i<l.length):(l.take (i+1)).filterMap (eK m)=(l.take i).filterMap (eK m)++(eK m l[i]).toList:=by
 have:l.take (i+1)=l.take i++[l[i]]:=by rw[List.take_add_one,List.getElem?_eq_getElem hi];rfl
 rw[this,List.filterMap_append]
 cases hg:eK m l[i]with
 |none=>simp[hg]
 |some r=>simp[hg]
end Wl
namespace Go.Vc
open Go
section
variable {B:ag} {α:Type} {C:Ctx} {h0 h:Heap} {As:List HP} {e t k by_:Nat} {s:Sl} {f:α→List Value} {l:List α} {z:List Value}
theorem ma (z:List Value) (n:Nat):(Builtin.zeroCells z.toArray n).toList.length=n*z.length:=by
 simp[Builtin.zeroCells]
theorem rZ {z:List Value} (hz:∀v∈z,v.oneCell'=true) (n:Nat):∀v∈(Builtin.zeroCells z.toArray n).toList,v.oneCell'=true:=by
 intro v hv
 simp only[Builtin.zeroCells,Array.toList_map,List.mem_map,Array.mem_toList_iff,Array.mem_range]at hv
 obtain⟨i,hi,rfl⟩:=hv
 simp only[List.size_toArray]at hi⊢
 have h0:0<z.length:=by
  rcases Nat.eq_zero_or_pos z.length with h|h
  ·rw[h]at hi;simp at hi
  ·exact h
 have hlt:=Nat.mod_lt i h0
 rw[getElem!_pos z.toArray _ (by simpa using hlt)]
 exact hz _ (by simp)
theorem Own.mU (hC:C.Ok) (ho:Own h e s k f l) (he:bk C.tokX t e k z by_) (hw:∀x,(f x).length=k) (hz:z.length=k) (hone:∀v∈z,v.oneCell'=true) (j:Nat) (hj:j≤l.length) {ty:Nat} {K:Heap→Prop}
  (hk:∀h',Own h' e ⟨s.ptr,j,s.cap⟩ k f (l.take j)→ar (fun b=>¬s.on b) h h'→K h'):
  ab C.P (Builtin.clear_ #[t] ty #[.slice (if s.cap=j then s.ptr else s.ptr.map (·.add (j*k))) (s.len-j) (s.cap-j)]) h fun _ h'=>K h':=by
 have hl:=ho.len
 have hcut:=ho.cut hw j hj
 unfold Builtin.clear_
 refine ab.bind (ab.always (al (he.under hC)) ?_)
 by_cases hjl:j=l.length
 ·have e0:s.len-j=0:=by omega
  rw[e0]
  generalize (if s.cap=j then s.ptr else s.ptr.map (·.add (j*k)))=q
  cases q with
  |none=>exact ab.pure' (hk h hcut (ar.refl _ _))
  |some a=>exact ab.pure' (hk h hcut (ar.refl _ _))
 ·rcases ho.head with⟨h1,h2,h3⟩|⟨b,rest,h1,h2,h3,h4⟩
  ·subst h3;simp at hj hjl;omega
  ·have hne:s.cap≠j:=by omega
   rw[if_neg hne,h1]
   obtain⟨m,hm⟩:∃m,s.len-j=m+1:=⟨s.len-j-1,by omega⟩
   rw[hm]
   obtain⟨i2,j2,g1,g2,g3,g4,g5,g6⟩:=he.ex
   obtain⟨zv,z1,z2⟩:=iJ hC.toOk g3
   refine ab.bind (ab.always z1 ?_)
   have hzc:zv.cells=z.toArray:=by apply Array.ext';rw[z2,g5]
   rw[hzc]
   refine ab.bind ?_
   have e1:((⟨b,0,none⟩:Addr).add (j*k))=⟨b,j*k,none⟩:=by simp[add_eq]
   show ab C.P (storeCells ((⟨b,0,none⟩:Addr).add (j*k)) (Builtin.zeroCells z.toArray (m+1)).toList) h _
   rw[e1]
   have hfl:(l.drop j).length=m+1:=by simp;omega
   refine bD (e:=e) (pre:=(l.take j).flatMap f) (old:=(l.drop j).flatMap f) (post:=rest) ?_ ?_ ?_ (rZ hone _) ?_
   ·rw[←List.flatMap_append,List.take_append_drop];exact h2
   ·rw[bK hw,hfl,ma,hz]
   ·rw[bK hw,List.length_take,Nat.min_eq_left (by omega)];omega
   ·refine ab.pure' (hk _ ⟨by simp;omega,.inr ⟨b,(Builtin.zeroCells z.toArray (m+1)).toList++rest,h1,?_,?_,by dsimp only;omega⟩⟩ ?_)
    ·rw[cH h2,if_pos rfl];simp
    ·rw[List.length_append,ma,hz,h3,←Nat.add_mul];dsimp only;congr 1;omega
    ·exact ar.cV h2 fun hh=>hh ⟨0,h1⟩
theorem aa.mU (hC:C.Ok) (H:aa B h0 h As) (i:Nat) (hi:As[i]?=some (aq e s k f l)) (he:bk C.tokX t e k z by_) (hw:∀x,(f x).length=k) (hz:z.length=k) (hone:∀v∈z,v.oneCell'=true) (j:Nat) (hj:j≤l.length) {ty:Nat} {K:Heap→Prop}
  (hk:∀h',aa B h0 h' (As.set i (aq e ⟨s.ptr,j,s.cap⟩ k f (l.take j)))→K h'):
  ab C.P (Builtin.clear_ #[t] ty #[.slice (if s.cap=j then s.ptr else s.ptr.map (·.add (j*k))) (s.len-j) (s.cap-j)]) h fun _ h'=>K h':=
 (H.own i hi).mU hC he hw hz hone j hj fun h' x y=>hk h' (H.step i hi fun q hq _=>⟨y.mono fun b _ hb hon=>hb (hq.2 b hon),x,fun b hb=>⟨x.lt hb,.inl (hq.2 b hb)⟩⟩)
end
end Go.Vc
namespace Wl
open Go
theorem vG:∀x y z:List UInt8,Op.bytesLess x y=true→Op.bytesLess y z=true→Op.bytesLess x z=true
 |x,[],_,h1,_=>by cases x<;>simp[Op.bytesLess]at h1
 |_,b::y,[],_,h2=>by simp[Op.bytesLess]at h2
 |[],_::_,_::_,_,_=>rfl
 |a::x,b::y,c::z,h1,h2=>by
  simp only[Op.bytesLess,Bool.or_eq_true,decide_eq_true_eq,Bool.and_eq_true,beq_iff_eq]at h1 h2⊢
  rcases h1 with h1|⟨rfl,h1⟩
  ·rcases h2 with h2|⟨rfl,h2⟩
   ·exact .inl (UInt8.lt_iff_toNat_lt.2 (by have:=UInt8.lt_iff_toNat_lt.1 h1;have:=UInt8.lt_iff_toNat_lt.1 h2;omega))
   ·exact .inl h1
  ·rcases h2 with h2|⟨rfl,h2⟩
   ·exact .inl h2
   ·exact .inr ⟨rfl,vG x y z h1 h2⟩
end Wl
namespace Wl
open Classical
theorem fF (a:UInt8):a^^^a=0:=UInt8.xor_self
theorem vH (a b:UInt8):(a^^^b)^^^b=a:=by rw[UInt8.xor_assoc,fF,UInt8.xor_zero]
theorem bu {c:UInt8} {a t:Row} (h:a.length=t.length) (j:Nat):aL (cI c a t) j=aL t j^^^Gf.mul c (aL a j):=by
 simp only[aL,cI,List.getD_eq_getElem?_getD,List.getElem?_zipWith]
 by_cases hj:j<a.length
 ·rw[List.getElem?_eq_getElem hj,List.getElem?_eq_getElem (by omega)];rfl
 ·rw[List.getElem?_eq_none (by omega),List.getElem?_eq_none (by omega)];simp[Gf.mul_zero]
theorem kr (c:UInt8) (a:Row) (j:Nat):aL (scaleB c a) j=Gf.mul c (aL a j):=by
 simp only[aL,scaleB,List.getD_eq_getElem?_getD,List.getElem?_map]
 cases a[j]? with
 |none=>simp[Gf.mul_zero]
 |some x=>rfl
def bO (n:Nat):Row:=List.replicate n 0
theorem dk (n j:Nat):aL (bO n) j=0:=by
 simp only[aL,bO,List.getD_eq_getElem?_getD,List.getElem?_replicate];split<;>rfl
theorem fl {n:Nat} {a b:Row} (ha:a.length=n) (hb:b.length=n) (h:∀j,j<n→aL a j=aL b j):a=b:=by
 apply List.ext_getElem (by omega)
 intro j h1 h2
 have:=h j (by omega)
 simpa[aL,List.getD_eq_getElem?_getD,List.getElem?_eq_getElem h1,List.getElem?_eq_getElem h2]using this
inductive Span (n:Nat) (m:aZ):Row→Prop
 |zero:Span n m (bO n)
 |add (c:UInt8) (r v:Row):r∈m→Span n m v→Span n m (cI c r v)
section
variable {n:Nat} {m m':aZ}
theorem Span.len (hm:aM n m) {v:Row} (h:Span n m v):v.length=n:=by
 induction h with
 |zero=>simp[bO]
 |add c r v hr _ ih=>rw[bg (by rw[hm r hr,ih])];exact ih
theorem Span.comb (hm:aM n m) {u v:Row} (hu:Span n m u) (hv:Span n m v) (c:UInt8):Span n m (cI c u v):=by
 induction hu with
 |zero=>
  have:cI c (bO n) v=v:=fl (n:=n) (by rw[bg (by simp[bO,hv.len hm])];exact hv.len hm) (hv.len hm) fun j _=>by
   rw[bu (by simp[bO,hv.len hm]),dk,Gf.mul_zero,UInt8.xor_zero]
  rw[this];exact hv
 |add d r w hr hw ih=>
  have l1:=hv.len hm;have l2:=hw.len hm;have l3:=hm r hr
  have:cI c (cI d r w) v=cI (Gf.mul c d) r (cI c w v):=fl (n:=n) (by rw[bg (by rw[bg (by omega)];omega)];exact l1) (by rw[bg (by rw[bg (by omega)];omega),bg (by omega)];exact l1) fun j _=>by
   rw[bu (by rw[bg (by omega)];omega),bu (by omega),bu (by rw[bg (by omega)];omega),bu (by omega),Gf.jE,Gf.mul_assoc]
   ac_rfl
  rw[this];exact .add _ _ _ hr ih
theorem Span.row (hm:aM n m) {r:Row} (hr:r∈m):Span n m r:=by
 have:=Span.add 1 r _ hr (.zero (n:=n) (m:=m))
 have e:cI 1 r (bO n)=r:=fl (n:=n) (by rw[bg (by simp[bO,hm r hr])];simp[bO]) (hm r hr) fun j _=>by
  rw[bu (by simp[bO,hm r hr]),dk,Gf.one_mul,UInt8.zero_xor]
 rwa [e]at this
theorem Span.sub (hm:aM n m) (h:∀r∈m',Span n m r) {v:Row} (hv:Span n m' v):Span n m v:=by
 induction hv with
 |zero=>exact .zero
 |add c r v hr _ ih=>exact(h r hr).comb hm ih c
theorem Span.mono (h:∀r∈m',r∈m) {v:Row} (hv:Span n m' v):Span n m v:=by
 induction hv with
 |zero=>exact .zero
 |add c r v hr _ ih=>exact .add c r v (h r hr) ih
theorem Span.AV (hm:aM n m) (φ:Row→UInt8) (h0:φ (bO n)=0) (ha:∀c a t,a.length=n→t.length=n→φ (cI c a t)=φ t^^^Gf.mul c (φ a)) (hr:∀r∈m,φ r=0) {v:Row} (hv:Span n m v):φ v=0:=by
 induction hv with
 |zero=>exact h0
 |add c r v hr' hv ih=>rw[ha c r v (hm r hr') (hv.len hm),ih,hr r hr',Gf.mul_zero,UInt8.xor_zero]
end
def lM (S:Row→Prop) (j:Nat):Prop:=∃v,S v∧(∀i,i<j→aL v i=0)∧aL v j≠0
noncomputable def leads (S:Row→Prop) (n:Nat):Nat:=(List.range n).countP fun j=>decide (lM S j)
structure Way (n:Nat) (m:aZ) (c top:Nat) (rows:aZ):Prop where
 even:aM n rows
 len:rows.length=m.length
 tle:top≤rows.length
 span:∀v,Span n rows v↔Span n m v
 cnt:top=leads (Span n m) c
 piv:∃p:Nat→Nat,(∀i,i<top→p i<c)∧(∀i,i<top→∀k,k<rows.length→aL (aD rows k) (p i)=if k=i then 1 else 0)∧(∀i,i<top→∀j,j<p i→aL (aD rows i) j=0)∧(∀i j,i<j→j<top→p i<p j)
 low:∀k,top≤k→k<rows.length→∀j,j<c→aL (aD rows k) j=0
theorem mem_row {m:aZ} {i:Nat} (h:i<m.length):aD m i∈m:=by rw[eT h];exact List.getElem_mem h
theorem cZ {m:aZ} {r:Row} (h:r∈m):∃i,i<m.length∧r=aD m i:=by
 obtain⟨i,hi,rfl⟩:=List.getElem_of_mem h
 exact⟨i,hi,(eT hi).symm⟩
theorem qF {m:aZ} {i j:Nat} {r:Row} (hi:i<m.length):aD (m.set i r) j=if i=j then r else aD m j:=by
 simp only[aD,List.getD_eq_getElem?_getD,List.getElem?_set]
 by_cases h:i=j
 ·subst h;simp[hi]
 ·simp[h]
theorem jV {m:aZ} {i j k:Nat} (hi:i<m.length) (hj:j<m.length):aD (fb m i j) k=if k=j then aD m i else if k=i then aD m j else aD m k:=by
 rw[fb,qF (by simpa using hj),qF hi]
 by_cases h1:j=k
 ·rw[if_pos h1,if_pos h1.symm]
 ·rw[if_neg h1,if_neg (show¬k=j from fun h=>h1 h.symm)]
  by_cases h2:i=k
  ·rw[if_pos h2,if_pos h2.symm]
  ·rw[if_neg h2,if_neg (show¬k=i from fun h=>h2 h.symm)]
theorem lN {m:aZ} {t c k:Nat} (ht:t<m.length):aD (fc t c m) k=if t=k then scaleB (Gf.inv (aL (aD m t) c)) (aD m t)else aD m k:=by
 rw[fc,qF ht]
section
variable {n:Nat} {m:aZ}
theorem xr (hm:aM n m) {i j:Nat} (hi:i<m.length) (hj:j<m.length) (v:Row):Span n (fb m i j) v↔Span n m v:=by
 refine⟨Span.mono fun r hr=>?_,Span.mono fun r hr=>?_⟩
 ·obtain⟨k,hk,rfl⟩:=cZ hr
  rw[gy]at hk
  rw[jV hi hj]
  split
  ·exact mem_row hi
  ·split
   ·exact mem_row hj
   ·exact mem_row hk
 ·obtain⟨k,hk,rfl⟩:=cZ hr
  have e:∀x,x<m.length→aD (fb m i j) x∈fb m i j:=fun x hx=>mem_row (by rw[gy];exact hx)
  by_cases h1:k=i
  ·subst h1;have:=e j hj;rw[jV hi hj,if_pos rfl]at this;exact this
  ·by_cases h2:k=j
   ·subst h2;have:=e i hi;rw[jV hi hj]at this
    by_cases h3:i=k
    ·exact absurd h3.symm h1
    ·rw[if_neg h3,if_pos rfl]at this;exact this
   ·have:=e k hk;rw[jV hi hj,if_neg h2,if_neg h1]at this;exact this
theorem xt (hm:aM n m) {t c:Nat} (ht:t<m.length) (hne:aL (aD m t) c≠0) (v:Row):Span n (fc t c m) v↔Span n m v:=by
 have hev:=mQ hm (c:=c) ht
 have hl:=bT hm ht
 have sc:∀(x:UInt8) (r:Row),r.length=n→scaleB x r=cI x r (bO n):=fun x r hr=>fl (n:=n) (by rw[kp,hr]) (by rw[bg (by simp[bO,hr])];simp[bO]) fun j _=>by
  rw[kr,bu (by simp[bO,hr]),dk,UInt8.zero_xor]
 refine⟨Span.sub hm fun r hr=>?_,Span.sub hev fun r hr=>?_⟩
 ·obtain⟨k,hk,rfl⟩:=cZ hr
  rw[jS]at hk
  rw[lN ht]
  split
  ·rw[sc _ _ hl];exact .add _ _ _ (mem_row ht) .zero
  ·exact Span.row hm (mem_row hk)
 ·obtain⟨k,hk,rfl⟩:=cZ hr
  have e:∀x,x<m.length→Span n (fc t c m) (aD (fc t c m) x):=fun x hx=>Span.row hev (mem_row (by rw[jS];exact hx))
  by_cases h1:t=k
  ·subst h1
   have:=e t ht
   rw[lN ht,if_pos rfl]at this
   have h2:=this.comb hev .zero (aL (aD m t) c)
   have e3:cI (aL (aD m t) c) (scaleB (Gf.inv (aL (aD m t) c)) (aD m t)) (bO n)=aD m t:=fl (n:=n) (by rw[bg (by simp[bO,kp,hl])];simp[bO]) hl fun j _=>by
    rw[bu (by simp[bO,kp,hl]),dk,UInt8.zero_xor,kr,←Gf.mul_assoc,Gf.qD hne,Gf.one_mul]
   rw[e3]at h2;exact h2
  ·have:=e k hk;rw[lN ht,if_neg h1]at this;exact this
theorem xu (hm:aM n m) {t c:Nat} (ht:t<m.length) (v:Row):Span n (fw t c m m.length) v↔Span n m v:=by
 have hev:=kq hm (c:=c) (k:=m.length) ht
 have hl:=bT hm ht
 refine⟨Span.sub hm fun r hr=>?_,Span.sub hev fun r hr=>?_⟩
 ·obtain⟨k,hk,rfl⟩:=cZ hr
  rw[jT]at hk
  rw[lJ hk]
  split
  ·exact .add _ _ _ (mem_row ht) (Span.row hm (mem_row hk))
  ·exact Span.row hm (mem_row hk)
 ·obtain⟨k,hk,rfl⟩:=cZ hr
  have e:∀x,x<m.length→Span n (fw t c m m.length) (aD (fw t c m m.length) x):=fun x hx=>Span.row hev (mem_row (by rw[jT];exact hx))
  have et:=e t ht
  rw[lJ ht,if_neg (by simp)]at et
  by_cases h1:k=t
  ·subst h1;exact et
  ·have h2:=e k hk
   rw[lJ hk,if_pos ⟨hk,h1⟩]at h2
   have h3:=et.comb hev h2 (aL (aD m k) c)
   have hk':=bT hm hk
   have e3:cI (aL (aD m k) c) (aD m t) (cI (aL (aD m k) c) (aD m t) (aD m k))=aD m k:=fl (n:=n) (by rw[bg (by rw[bg (by omega)];omega),bg (by omega)];exact hk') hk' fun j _=>by
    rw[bu (by rw[bg (by omega)];omega),bu (by omega),vH]
   rw[e3]at h3;exact h3
def eg (f g:Nat→UInt8):Nat→UInt8
 |0=>0
 |k+1=>eg f g k^^^Gf.mul (f k) (g k)
theorem fG (f g:Nat→UInt8):∀k,(∀i,i<k→f i=0)→eg f g k=0
 |0,_=>rfl
 |k+1,h=>by rw[eg,fG f g k fun i hi=>h i (by omega),h k (by omega),Gf.zero_mul];rfl
theorem qG (f g:Nat→UInt8) (x:Nat):∀k,x<k→(∀i,i<k→f i=if x=i then 1 else 0)→eg f g k=g x
 |0,hx,_=>by omega
 |k+1,hx,h=>by
  rw[eg]
  by_cases hk:x=k
  ·subst hk
   rw[fG f g x fun i hi=>by rw[h i (by omega),if_neg (by omega)],h x (by omega),if_pos rfl,Gf.one_mul,UInt8.zero_xor]
  ·rw[qG f g x k (by omega) fun i hi=>h i (by omega),h k (by omega),if_neg hk,Gf.zero_mul,UInt8.xor_zero]
theorem qH (f1 f2 g:Nat→UInt8) (c:UInt8):∀k,eg (fun i=>f1 i^^^Gf.mul c (f2 i)) g k=eg f1 g k^^^Gf.mul c (eg f2 g k)
 |0=>by simp[eg,Gf.mul_zero]
 |k+1=>by
  rw[eg,eg,eg,qH f1 f2 g c k,Gf.jE,Gf.vC,Gf.mul_assoc]
  ac_rfl
theorem pJ (S:Row→Prop) (c:Nat):leads S (c+1)=leads S c+if lM S c then 1 else 0:=by
 simp only[leads,List.range_succ,List.countP_append,List.countP_cons,List.countP_nil]
 by_cases h:lM S c<;>simp[h]
theorem xv (hm:aM n m):Way n m 0 0 m:=⟨hm,rfl,by omega,fun _=>Iff.rfl,by simp[leads],⟨fun _=>0,fun i hi=>by omega,fun i hi=>by omega,fun i hi=>by omega,fun i j _ hj=>by omega⟩,fun k _ _ j hj=>by omega⟩
theorem yF (hm:aM n m) {c top:Nat} {rows:aZ} (w:Way n m c top rows) (hc:c<n):Way n m (c+1) (gJ (top,rows) c).1 (gJ (top,rows) c).2:=by
 obtain⟨hev,hlen,htl,hsp,hcnt,⟨p,p1,p2,p3,p4⟩,hlow⟩:=w
 have hS:∀v,Span n rows v↔Span n m v:=hsp
 have hSeq:Span n rows=Span n m:=funext fun v=>propext (hS v)
 unfold gJ
 dsimp only
 cases hb:fO rows top c with
 |none=>
  have hno:=uM hb
  dsimp only
  have hnl:¬lM (Span n m) c:=by
   rw[←hSeq]
   rintro⟨v,hv,hz,hne⟩
   apply hne
   have hφ:=Span.AV hev (fun v=>aL v c^^^eg (fun i=>aL v (p i)) (fun i=>aL (aD rows i) c) top) (by
     simp only[dk];rw[fG _ _ _ fun i _=>rfl];rfl) (fun x a t ha ht=>by
     simp only[bu (show a.length=t.length by omega)]
     rw[qH,Gf.jE];ac_rfl) (fun r hr=>by
     obtain⟨k,hk,rfl⟩:=cZ hr
     by_cases hkt:k<top
     ·rw[qG _ _ k top hkt fun i hi=>by rw[p2 i hi k hk]];exact fF _
     ·rw[hno k (by omega) hk,fG _ _ _ fun i hi=>by rw[p2 i hi k hk,if_neg (by omega)]];rfl) hv
   rw[fG _ _ _ fun i hi=>hz _ (p1 i hi),UInt8.xor_zero]at hφ
   exact hφ
  refine⟨hev,hlen,htl,hsp,by rw[pJ,if_neg hnl,hcnt];rfl,⟨p,fun i hi=>by have:=p1 i hi;omega,p2,p3,p4⟩,fun k hk1 hk2 j hj=>?_⟩
  rcases Nat.lt_succ_iff_lt_or_eq.1 hj with h|rfl
  ·exact hlow k hk1 hk2 j h
  ·exact hno k hk1 hk2
 |some at_=>
  have hh:=oh hb
  obtain⟨h1,h2,h3⟩:=hh
  dsimp only
  have htt:top<rows.length:=by omega
  obtain⟨r1,hr1⟩:∃r1,r1=fb rows top at_:=⟨_,rfl⟩
  have l1:r1.length=rows.length:=by rw[hr1,gy]
  have ev1:aM n r1:=by rw[hr1];exact rE hev htt h2
  have q1:∀k,aD r1 k=if k=at_ then aD rows top else if k=top then aD rows at_ else aD rows k:=fun k=>by rw[hr1,jV htt h2]
  have q1t:aD r1 top=aD rows at_:=by
   rw[q1]
   by_cases h:top=at_
   ·rw[if_pos h,h]
   ·rw[if_neg h,if_pos rfl]
  have hne1:aL (aD r1 top) c≠0:=by rw[q1t];exact h3
  obtain⟨r2,hr2⟩:∃r2,r2=fc top c r1:=⟨_,rfl⟩
  have l2:r2.length=rows.length:=by rw[hr2,jS,l1]
  have ev2:aM n r2:=by rw[hr2];exact mQ ev1 (by omega)
  have q2:∀k,aD r2 k=if top=k then scaleB (Gf.inv (aL (aD r1 top) c)) (aD r1 top)else aD r1 k:=fun k=>by rw[hr2,lN (by omega)]
  have hz2:∀j,aL (aD r1 top) j=0→aL (aD r2 top) j=0:=fun j hj=>by rw[q2,if_pos rfl,kr,hj,Gf.mul_zero]
  have hone:aL (aD r2 top) c=1:=by rw[q2,if_pos rfl,kr,Gf.mul_comm,Gf.qD hne1]
  obtain⟨r3,hr3⟩:∃r3,r3=fw top c r2 rows.length:=⟨_,rfl⟩
  have l3:r3.length=rows.length:=by rw[hr3,jT,l2]
  have q3:∀k,k<rows.length→∀j,aL (aD r3 k) j=if k=top then aL (aD r2 top) j else aL (aD r1 k) j^^^Gf.mul (aL (aD r1 k) c) (aL (aD r2 top) j):=fun k hk j=>by
   rw[hr3,lJ (by omega)]
   by_cases h:k=top
   ·rw[if_neg (by omega),if_pos h,h]
   ·have e:=q2 k
    rw[if_neg (fun hh=>h hh.symm)]at e
    rw[if_pos ⟨hk,h⟩,if_neg h,bu (by rw[bT ev2 (by omega),bT ev2 (by omega)]),e]
  have low1:∀j,j<c→aL (aD r2 top) j=0:=fun j hj=>hz2 j (by rw[q1t];exact hlow at_ h1 h2 j hj)
  have keep:∀k,k<rows.length→∀j,j<c→aL (aD r3 k) j=if k=top then 0 else aL (aD r1 k) j:=fun k hk j hj=>by
   rw[q3 k hk,low1 j hj,Gf.mul_zero,UInt8.xor_zero]
  have old1:∀k,k<top→aD r1 k=aD rows k:=fun k hk=>by rw[q1,if_neg (by omega),if_neg (by omega)]
  have zer1:∀k,top≤k→k<rows.length→∀j,j<c→aL (aD r1 k) j=0:=fun k hk1 hk2 j hj=>by
   rw[q1]
   split
   ·exact hlow top (Nat.le_refl _) htt j hj
   ·split
    ·exact hlow at_ h1 h2 j hj
    ·exact hlow k hk1 hk2 j hj
  have hspan:∀v,Span n r3 v↔Span n m v:=fun v=>by
   rw[hr3,show rows.length=r2.length by omega,xu ev2 (by omega),hr2,xt ev1 (by omega) hne1,hr1,xr hev htt h2,hS]
  have hlead:lM (Span n m) c:=⟨aD r3 top,(hspan _).1 (Span.row (by rw[hr3];exact kq ev2 (by omega)) (mem_row (by omega))),fun j hj=>by rw[keep top htt j hj,if_pos rfl],by rw[q3 top htt,if_pos rfl,hone];decide⟩
  have hr3':fw top c (fc top c (fb rows top at_)) rows.length=r3:=by rw[hr3,hr2,hr1]
  rw[hr3']
  refine⟨by rw[hr3];exact kq ev2 (by omega),by omega,by omega,hspan,by rw[pJ,if_pos hlead,hcnt],⟨fun i=>if i<top then p i else c,fun i hi=>?_,fun i hi k hk=>?_,fun i hi j hj=>?_,fun i j hij hj=>?_⟩,fun k hk1 hk2 j hj=>?_⟩
  ·dsimp only;split
   ·have:=p1 i (by assumption);omega
   ·omega
  ·dsimp only
   by_cases hit:i<top
   ·rw[if_pos hit,keep k (by omega) _ (p1 i hit)]
    by_cases hkt:k<top
    ·rw[if_neg (by omega),old1 k hkt];exact p2 i hit k (by omega)
    ·rw[if_neg (show¬k=i by omega)]
     split
     ·rfl
     ·exact zer1 k (by omega) (by omega) _ (p1 i hit)
   ·have hie:i=top:=by omega
    subst hie
    rw[if_neg hit,q3 k (by omega)]
    by_cases hki:k=i
    ·rw[if_pos hki,if_pos hki];exact hone
    ·rw[if_neg hki,if_neg hki,hone,Gf.mul_one];exact fF _
  ·dsimp only at hj
   by_cases hit:i<top
   ·rw[if_pos hit]at hj
    have:=p1 i hit
    rw[keep i (by omega) j (by omega),if_neg (by omega),old1 i hit]
    exact p3 i hit j hj
   ·have hie:i=top:=by omega
    subst hie
    rw[if_neg hit]at hj
    rw[keep i (by omega) j hj,if_pos rfl]
  ·dsimp only
   rw[if_pos (show i<top by omega)]
   split
   ·exact p4 i j hij (by assumption)
   ·exact p1 i (by omega)
  ·rcases Nat.lt_succ_iff_lt_or_eq.1 hj with h|rfl
   ·rw[keep k (by omega) j h,if_neg (by omega)];exact zer1 k (by omega) (by omega) j h
   ·rw[q3 k (by omega),if_neg (by omega),hone,Gf.mul_one];exact fF _
theorem qI (hm:aM n m):∀c,c≤n→Way n m c (bq m c).1 (bq m c).2
 |0,_=>xv hm
 |c+1,h=>by rw[bq];exact yF hm (qI hm c (by omega)) (by omega)
theorem gQ:∀c,bq [] c=(0,[])
 |0=>rfl
 |c+1=>by rw[bq,gQ c];rfl
theorem jv (hm:aM n m):cY m=leads (Span n m) n:=by
 rw[←(qI hm n (Nat.le_refl _)).cnt,cY]
 cases m with
 |nil=>rw[gQ,gQ]
 |cons x t=>rw[pB,eT (by simp)];rw[show((x::t)[0]).length=n from hm _ (by simp)]
end
section
variable {n:Nat} {m m':aZ}
theorem wh {S S':Row→Prop} (h:∀v,S v→S' v) (n:Nat):leads S n≤leads S' n:=by
 refine List.countP_mono_left fun j _ hj=>?_
 simp only[decide_eq_true_eq]at hj⊢
 obtain⟨v,h1,h2⟩:=hj
 exact⟨v,h v h1,h2⟩
theorem xw (hm:aM n m) (hm':aM n m') (h:∀r∈m,r∈m'):cY m≤cY m':=by
 rw[jv hm,jv hm'];exact wh (fun v=>Span.mono h) n
theorem xx {P Q:Nat→Bool} (l:List Nat) (hd:l.Nodup) (h1:∀a∈l,P a=true→Q a=true) (h2:∀a∈l,∀b∈l,Q a=true→P a=false→Q b=true→P b=false→a=b):l.countP Q≤l.countP P+1:=by
 induction l with
 |nil=>simp
 |cons x t ih=>
  rw[List.nodup_cons]at hd
  have ih':=ih hd.2 (fun a ha=>h1 a (by simp[ha])) (fun a ha b hb=>h2 a (by simp[ha]) b (by simp[hb]))
  simp only[List.countP_cons]
  cases hQ:Q x with
  |false=>
   have:(if P x=true then 1 else 0)≥0:=by omega
   simp;omega
  |true=>
   cases hP:P x with
   |true=>simp;omega
   |false=>
    have:t.countP Q≤t.countP P:=by
     refine List.countP_mono_left fun a ha hq=>?_
     cases hpa:P a with
     |true=>rfl
     |false=>
      have:=h2 x (by simp) a (by simp[ha]) hQ hP hq hpa
      subst this
      exact absurd ha hd.1
    simp;omega
theorem rH (hm:aM n m) {r:Row} (hr:r.length=n) {v:Row} (hv:Span n (m++[r]) v):∃(c:UInt8) (u:Row),Span n m u∧v=cI c r u:=by
 have hev:aM n (m++[r]):=fun x hx=>by
  rcases List.mem_append.1 hx with h|h
  ·exact hm x h
  ·rw[List.mem_singleton.1 h];exact hr
 induction hv with
 |zero=>exact⟨0,bO n,.zero,(fl (n:=n) (by rw[bg (by simp[bO,hr])];simp[bO]) (by simp[bO]) fun j _=>by rw[bu (by simp[bO,hr]),dk,Gf.zero_mul];rfl).symm⟩
 |add d x w hx hw ih=>
  obtain⟨c,u,hu,rfl⟩:=ih
  have hul:=hu.len hm
  rcases List.mem_append.1 hx with h|h
  ·have hxl:=hm x h
   refine⟨c,cI d x u,.add d x u h hu,fl (n:=n) (by rw[bg (by rw[bg (by omega)];omega),bg (by omega)];exact hul) (by rw[bg (by rw[bg (by omega)];omega),bg (by omega)];exact hul) fun j _=>?_⟩
   rw[bu (by rw[bg (by omega)];omega),bu (by omega),bu (by rw[bg (by omega)];omega),bu (by omega)]
   ac_rfl
  ·have hxr:=List.mem_singleton.1 h
   subst hxr
   refine⟨c^^^d,u,hu,fl (n:=n) (by rw[bg (by rw[bg (by omega)];omega),bg (by omega)];exact hul) (by rw[bg (by omega)];exact hul) fun j _=>?_⟩
   rw[bu (by rw[bg (by omega)];omega),bu (by omega),bu (by omega),Gf.vC]
   ac_rfl
theorem xy (hm:aM n m) {r:Row} (hr:r.length=n):aM n (m++[r]):=fun x hx=>by
 rcases List.mem_append.1 hx with h|h
 ·exact hm x h
 ·rw[List.mem_singleton.1 h];exact hr
theorem xz (hm:aM n m) {r:Row} (hr:r.length=n):cY m≤cY (m++[r])∧cY (m++[r])≤cY m+1:=by
 have hev:=xy hm hr
 refine⟨xw hm hev fun x hx=>by simp[hx],?_⟩
 rw[jv hm,jv hev]
 refine xx _ List.nodup_range (fun a _ ha=>?_) (fun a _ b _ qa pa qb pb=>?_)
 ·simp only[decide_eq_true_eq]at ha⊢
  obtain⟨v,h1,h2⟩:=ha
  exact⟨v,Span.mono (fun x hx=>by simp[hx]) h1,h2⟩
 ·simp only[decide_eq_true_eq,decide_eq_false_iff_not]at qa pa qb pb
  have key:∀a b,lM (Span n (m++[r])) a→¬lM (Span n m) a→lM (Span n (m++[r])) b→¬lM (Span n m) b→¬a<b:=by
   rintro a b ⟨v,hv,hz,hne⟩ pa ⟨w,hw,hzw,hnw⟩ pb hab
   obtain⟨c,u,hu,rfl⟩:=rH hm hr hv
   obtain⟨d,u',hu',rfl⟩:=rH hm hr hw
   have l1:=hu.len hm;have l2:=hu'.len hm
   have hd:d≠0:=by
    rintro rfl
    apply pb
    refine⟨u',hu',fun i hi=>?_,?_⟩
    ·have:=hzw i hi;rw[bu (by omega),Gf.zero_mul,UInt8.xor_zero]at this;exact this
    ·rw[bu (by omega),Gf.zero_mul,UInt8.xor_zero]at hnw;exact hnw
   apply pa
   refine⟨cI (Gf.mul c (Gf.inv d)) u' u,hu'.comb hm hu _,?_⟩
   have hval:∀j,aL (cI (Gf.mul c (Gf.inv d)) u' u) j=aL (cI c r u) j^^^Gf.mul (Gf.mul c (Gf.inv d)) (aL (cI d r u') j):=fun j=>by
    rw[bu (by omega),bu (by omega),bu (by omega),Gf.jE,←Gf.mul_assoc (Gf.mul c (Gf.inv d)) d,Gf.mul_assoc c (Gf.inv d) d,Gf.mul_comm (Gf.inv d) d,Gf.qD hd,Gf.mul_one]
    have:∀x y z:UInt8,x^^^y=x^^^z^^^(y^^^z):=fun x y z=>by
     have:x^^^z^^^(y^^^z)=x^^^y^^^(z^^^z):=by ac_rfl
     rw[this,fF,UInt8.xor_zero]
    exact this _ _ _
   refine⟨fun i hi=>?_,?_⟩
   ·rw[hval,hz i hi,hzw i (by omega),Gf.mul_zero];rfl
   ·rw[hval,hzw a hab,Gf.mul_zero,UInt8.xor_zero];exact hne
  have h1:=key a b qa pa qb pb
  have h2:=key b a qb pb qa pa
  omega
theorem mV (m:aZ) (h:aM n m):cY m≤m.length:=by
 have key:∀k,k≤m.length→cY (m.take k)≤k:=by
  intro k
  induction k with
  |zero=>intro _;simp[cY,pB,aD,bq]
  |succ k ih=>
   intro hk
   have ht:aM n (m.take k):=fun x hx=>h x (List.mem_of_mem_take hx)
   have h1:=ih (by omega)
   rw[List.take_succ_eq_append_getElem (by omega)]
   have h2:=(xz ht (h _ (List.getElem_mem (show k<m.length by omega)))).2
   omega
 have:=key m.length (Nat.le_refl _)
 rwa [List.take_of_length_le (Nat.le_refl _)]at this
end
end Wl
namespace Wl
open Go
def zI (p:Int×Int×Int) (seed:Int) (ids:List Int):Nat:=cY (ir p seed ids)
def wi (p:Int×Int×Int) (seed:Int) (ids:List Int):Bool:=cF p&&((zI p seed ids:Int)==ko p)
def dW (p:Int×Int×Int):List Int:=upto (max 0 (min p.1 16)).toNat
theorem tN {p:Int×Int×Int} (h:cF p=true):ko p=p.1+p.2.1:=by rw[ko,if_pos h]
theorem xA (p:Int×Int×Int) (seed:Int) (ids:List Int):aM (ko p).toNat (ir p seed ids):=by
 intro r hr
 unfold ir at hr
 split at hr
 ·rename_i hp
  have:=(fC p).1 hp
  rcases List.mem_append.1 hr with h|h
  ·obtain⟨x,_,rfl⟩:=List.mem_map.1 h
   rw[tG,tN hp];omega
  ·obtain⟨x,_,rfl⟩:=List.mem_map.1 h
   exact yE _ _ _
 ·cases hr
end Wl
namespace Wl
def dM (a b:aZ):aZ:=List.zipWith (·++·) a b
def eo (n:Nat) (m:aZ):aZ:=m.map (List.take n)
theorem oR {r:Row} {n j:Nat} (h:j<n):aL (r.take n) j=aL r j:=by
 simp only[aL,List.getD_eq_getElem?_getD,List.getElem?_take];rw[if_pos h]
theorem yG (r:Row) (n j:Nat):aL (r.drop n) j=aL r (n+j):=by
 simp only[aL,List.getD_eq_getElem?_getD,List.getElem?_drop]
theorem jH (n:Nat) (m:aZ) (i:Nat):aD (eo n m) i=(aD m i).take n:=by
 simp only[aD,eo,List.getD_eq_getElem?_getD,List.getElem?_map]
 cases m[i]? with
 |none=>simp
 |some r=>rfl
theorem qJ (n:Nat) (m:aZ):(eo n m).length=m.length:=by simp[eo]
theorem wj {n top bA:Nat} (m:aZ) (h:bA<n):fO (eo n m) top bA=fO m top bA:=by
 unfold fO
 rw[qJ]
 congr 1
 funext i
 rw[jH,oR h]
theorem qK (n:Nat) (m:aZ) (i:Nat) (r:Row):eo n (m.set i r)=(eo n m).set i (r.take n):=by simp[eo,List.map_set]
theorem yH (n:Nat) (m:aZ) (i j:Nat):eo n (fb m i j)=fb (eo n m) i j:=by
 rw[fb,qK,qK,fb,jH,jH]
theorem xB (n:Nat) (c:UInt8) (r:Row):(scaleB c r).take n=scaleB c (r.take n):=by simp[scaleB,List.map_take]
theorem Ae (n:Nat) (c:UInt8) (a t:Row):(cI c a t).take n=cI c (a.take n) (t.take n):=by simp[cI,List.take_zipWith]
theorem yI {n bA:Nat} (h:bA<n) (t:Nat) (m:aZ):eo n (fc t bA m)=fc t bA (eo n m):=by
 rw[fc,qK,xB,fc,jH,oR h]
theorem yJ {n bA:Nat} (h:bA<n) (t k:Nat) (m:aZ):eo n (fw t bA m k)=fw t bA (eo n m) k:=by
 apply List.ext_getElem?
 intro i
 simp only[eo,fw,List.getElem?_map,List.getElem?_mapIdx]
 cases m[i]? with
 |none=>rfl
 |some r=>
  simp only[Option.map_some]
  congr 1
  have:=jH n m t
  rw[eo]at this
  rw[this,oR h]
  split
  ·exact Ae _ _ _ _
  ·rfl
theorem yK {n bA:Nat} (h:bA<n) (s:Nat×aZ):((gJ s bA).1,eo n (gJ s bA).2)=gJ (s.1,eo n s.2) bA:=by
 unfold gJ
 dsimp only
 rw[wj _ h]
 cases fO s.2 s.1 bA with
 |none=>rfl
 |some i=>dsimp only;rw[yJ h,yI h,yH,qJ]
theorem pK (n:Nat) (m:aZ):∀c,c≤n→((bq m c).1,eo n (bq m c).2)=bq (eo n m) c
 |0,_=>rfl
 |c+1,h=>by
  have ih:=pK n m c (by omega)
  rw[bq,bq,yK (show c<n by omega),ih]
theorem gz {a b:aZ} (h:a.length=b.length):(dM a b).length=a.length:=by simp[dM,h]
theorem nR {a b:aZ} (h:a.length=b.length) {i:Nat} (hi:i<a.length):aD (dM a b) i=aD a i++aD b i:=by
 rw[eT (by rw[gz h];exact hi),eT hi,eT (by omega)];simp[dM]
theorem jW {n w:Nat} {a b:aZ} (h:a.length=b.length) (ha:aM n a) (hb:aM w b):aM (n+w) (dM a b):=fun r hr=>by
 obtain⟨i,hi,rfl⟩:=cZ hr
 rw[gz h]at hi
 rw[nR h hi,List.length_append,bT ha hi,bT hb (by omega)]
theorem Af {n:Nat} {a b:aZ} (h:a.length=b.length) (ha:aM n a):eo n (dM a b)=a:=by
 apply List.ext_getElem (by rw[qJ,gz h])
 intro i h1 h2
 have:=jH n (dM a b) i
 rw[eT h1,nR h h2,List.take_left' (bT ha h2),eT h2]at this
 exact this
theorem yL {n:Nat} {a:aZ} (ha:aM n a):(bq a n).1=cY a:=by
 rw[cY]
 cases a with
 |nil=>rw[gQ,gQ]
 |cons x t=>rw[pB,eT (by simp)];rw[show((x::t)[0]).length=n from ha _ (by simp)]
theorem yM {n:Nat} {a b:aZ} (h:a.length=b.length) (ha:aM n a):(bq (dM a b) n).1=cY a:=by
 have:=congrArg Prod.fst (pK n (dM a b) n (Nat.le_refl _))
 rw[Af h ha]at this
 rw[←yL ha];exact this
def lO (w:Nat) (r:Row) (X:aZ):Nat→Row
 |0=>bO w
 |k+1=>cI (aL r k) (aD X k) (lO w r X k)
theorem oS {n w:Nat} {X:aZ} (hX:aM w X) (hl:X.length=n) (r:Row):∀k,k≤n→(lO w r X k).length=w
 |0,_=>by simp[lO,bO]
 |k+1,h=>by
  have ih:=oS hX hl r k (by omega)
  rw[lO,bg (by rw[bT hX (by omega),ih])];exact ih
theorem oT {n w:Nat} {X:aZ} (hX:aM w X) (hl:X.length=n) (r:Row) (j:Nat):∀k,k≤n→aL (lO w r X k) j=eg (fun i=>aL r i) (fun i=>aL (aD X i) j) k
 |0,_=>by rw[lO,dk];rfl
 |k+1,h=>by
  have ih:=oT hX hl r j k (by omega)
  rw[lO,bu (by rw[bT hX (by omega),oS hX hl r k (by omega)]),ih];rfl
def mW (n w:Nat) (a b X:aZ):Prop:=X.length=n∧aM w X∧∀i,i<a.length→lO w (aD a i) X n=aD b i
def jX (n:Nat) (X:aZ) (k:Nat) (v:Row):UInt8:=aL v (n+k)^^^eg (fun i=>aL v i) (fun i=>aL (aD X i) k) n
theorem jw {f f' g g':Nat→UInt8}:∀k,(∀i,i<k→f i=f' i)→(∀i,i<k→g i=g' i)→eg f g k=eg f' g' k
 |0,_,_=>rfl
 |k+1,h1,h2=>by rw[eg,eg,jw k (fun i hi=>h1 i (by omega)) (fun i hi=>h2 i (by omega)),h1 k (by omega),h2 k (by omega)]
theorem vI (n:Nat) (X:aZ) (k:Nat) (c:UInt8) (a t:Row) (h:a.length=t.length):jX n X k (cI c a t)=jX n X k t^^^Gf.mul c (jX n X k a):=by
 unfold jX
 rw[bu h]
 have:eg (fun i=>aL (cI c a t) i) (fun i=>aL (aD X i) k) n=eg (fun i=>aL t i^^^Gf.mul c (aL a i)) (fun i=>aL (aD X i) k) n:=jw n (fun i _=>bu h i) fun _ _=>rfl
 rw[this,qH,Gf.jE];ac_rfl
theorem vJ {a b:Row} {n:Nat} (ha:a.length=n) (k:Nat):aL (a++b) (n+k)=aL b k:=by
 simp only[aL,List.getD_eq_getElem?_getD]
 rw[List.getElem?_append_right (by omega),ha,Nat.add_sub_cancel_left]
theorem tO {a b:Row} {n j:Nat} (ha:a.length=n) (hj:j<n):aL (a++b) j=aL a j:=by
 simp only[aL,List.getD_eq_getElem?_getD]
 rw[List.getElem?_append_left (by omega)]
theorem mX {a b:UInt8}:a^^^b=0↔a=b:=by
 constructor
 ·intro h
  have:=congrArg (·^^^b) h
  simp only[UInt8.zero_xor]at this
  rwa [vH]at this
 ·rintro rfl;exact fF _
theorem wk {n w:Nat} {a b X:aZ} (h:a.length=b.length) (ha:aM n a) (hb:aM w b) (hl:X.length=n) (hX:aM w X):mW n w a b X↔∀k,k<w→∀v,Span (n+w) (dM a b) v→jX n X k v=0:=by
 have hev:=jW h ha hb
 constructor
 ·intro hs k hk v hv
  refine Span.AV hev (jX n X k) ?_ (fun c a t h1 h2=>vI n X k c a t (by omega)) (fun r hr=>?_) hv
  ·unfold jX
   rw[dk,fG _ _ n fun i _=>dk _ _];rfl
  ·obtain⟨i,hi,rfl⟩:=cZ hr
   rw[gz h]at hi
   rw[nR h hi]
   unfold jX
   rw[vJ (bT ha hi),←hs.2.2 i hi,oT hX hl _ k n (Nat.le_refl _),mX]
   exact jw n (fun j hj=>(tO (bT ha hi) hj).symm) fun _ _=>rfl
 ·intro hp
  refine⟨hl,hX,fun i hi=>fl (n:=w) (oS hX hl _ n (Nat.le_refl _)) (bT hb (by omega)) fun k hk=>?_⟩
  have:=hp k hk _ (Span.row hev (mem_row (show i<(dM a b).length by rw[gz h];exact hi)))
  rw[nR h hi]at this
  unfold jX at this
  rw[vJ (bT ha hi),mX]at this
  rw[this,oT hX hl _ k n (Nat.le_refl _)]
  exact jw n (fun j hj=>(tO (bT ha hi) hj).symm) fun _ _=>rfl
theorem AW {n:Nat} {p:Nat→Nat} (h1:∀i,i<n→p i<n) (h2:∀i j,i<j→j<n→p i<p j):∀i,i<n→p i=i:=by
 have lo:∀i,i<n→i≤p i:=by
  intro i
  induction i with
  |zero=>intro _;omega
  |succ i ih=>intro hi;have:=ih (by omega);have:=h2 i (i+1) (by omega) hi;omega
 have up:∀k i,i+k+1=n→p i≤i:=by
  intro k
  induction k with
  |zero=>intro i hi;have:=h1 i (by omega);omega
  |succ k ih=>intro i hi;have:=ih (i+1) (by omega);have:=h2 i (i+1) (by omega) (by omega);omega
 intro i hi
 have:=lo i hi
 have:=up (n-1-i) i (by omega)
 omega
def lP (n:Nat) (a b:aZ):aZ:=(((bq (dM a b) n).2).take n).map (List.drop n)
def zJ (n:Nat) (a b:aZ):Prop:=∀r∈((bq (dM a b) n).2).drop n,r=bO r.length
section
variable {n w:Nat} {a b:aZ}
theorem Ag (h:a.length=b.length) (ha:aM n a) (hb:aM w b) (hr:cY a=n):(lP n a b).length=n∧aM w (lP n a b):=by
 have hev:=jW h ha hb
 have h2:=iM hev n
 have h3:=mV a ha
 refine⟨by rw[lP,List.length_map,List.length_take,h2.2,gz h];omega,fun r hr'=>?_⟩
 obtain⟨x,hx,rfl⟩:=List.mem_map.1 hr'
 rw[List.length_drop,h2.1 x (List.mem_of_mem_take hx)];omega
theorem Ah (h:a.length=b.length) (ha:aM n a) (hr:cY a=n) {i:Nat} (hi:i<n):aD (lP n a b) i=(aD (bq (dM a b) n).2 i).drop n:=by
 simp only[aD,lP,List.getD_eq_getElem?_getD,List.getElem?_map,List.getElem?_take]
 rw[if_pos hi]
 cases(bq (dM a b) n).2[i]? with
 |none=>simp
 |some r=>rfl
theorem yN (h:a.length=b.length) (ha:aM n a) (hb:aM w b) (hr:cY a=n):
  (∀v,Span (n+w) (bq (dM a b) n).2 v↔Span (n+w) (dM a b) v)∧(bq (dM a b) n).2.length=a.length∧(∀i,i<n→∀k,k<a.length→aL (aD (bq (dM a b) n).2 k) i=if k=i then 1 else 0):=by
 have hev:=jW h ha hb
 have W:=qI hev n (by omega)
 have ht:(bq (dM a b) n).1=n:=by rw[yM h ha,hr]
 obtain⟨p,p1,p2,p3,p4⟩:=W.piv
 rw[ht]at p1 p2 p3 p4
 have hid:=AW p1 p4
 have hl:(bq (dM a b) n).2.length=a.length:=by rw[W.len,gz h]
 refine⟨W.span,hl,fun i hi k hk=>?_⟩
 have:=p2 i hi k (by omega)
 rwa [hid i hi]at this
theorem yO {X:aZ} {r:Row} {i k:Nat} (hi:i<n) (hr:∀j,j<n→aL r j=if i=j then 1 else 0):jX n X k r=aL r (n+k)^^^aL (aD X i) k:=by
 unfold jX
 rw[qG _ _ i n hi fun j hj=>hr j hj]
theorem Ai {X:aZ} {r:Row} {k:Nat} (hr:∀j,j<n→aL r j=0):jX n X k r=aL r (n+k):=by
 unfold jX
 rw[fG _ _ n hr,UInt8.xor_zero]
theorem wm (h:a.length=b.length) (ha:aM n a) (hb:aM w b) (hr:cY a=n) (hc:zJ n a b):mW n w a b (lP n a b):=by
 have hev:=jW h ha hb
 have h2:=iM hev n
 obtain⟨hsp,hl,hd⟩:=yN h ha hb hr
 have hle:=mV a ha
 obtain⟨s1,s2⟩:=Ag h ha hb hr
 refine(wk h ha hb s1 s2).2 fun k hk v hv=>?_
 refine Span.AV h2.1 (jX n (lP n a b) k) ?_ (fun c x t h1 h2=>vI n _ k c x t (by omega)) (fun r hr'=>?_) ((hsp v).2 hv)
 ·unfold jX
  rw[dk,fG _ _ n fun i _=>dk _ _];rfl
 ·obtain⟨i,hi,rfl⟩:=cZ hr'
  by_cases hin:i<n
  ·rw[yO hin fun j hj=>hd j hj i (by omega),Ah h ha hr hin,yG];exact fF _
  ·rw[Ai fun j hj=>by rw[hd j hj i (by omega),if_neg (by omega)]]
   have:aD (bq (dM a b) n).2 i∈(bq (dM a b) n).2.drop n:=by
    rw[eT hi]
    obtain⟨d,rfl⟩:∃d,i=n+d:=⟨i-n,by omega⟩
    rw[←List.getElem_drop (h:=by rw[List.length_drop];omega)]
    exact List.getElem_mem _
   rw[hc _ this,dk]
theorem uN (h:a.length=b.length) (ha:aM n a) (hb:aM w b) (hn:a.length=n):zJ n a b:=by
 have hev:=jW h ha hb
 have h2:=iM hev n
 intro r hr
 rw[List.drop_of_length_le (by rw[h2.2,gz h];omega)]at hr
 cases hr
end
end Wl
namespace Wl
end Wl
namespace Wl
open Go Go.Vc
def gi (K H w:Nat) (d:Row):aZ:=List.replicate H (bO w)++(List.range K).map (AL d w)
def wo (p:Int×Int×Int) (seed:Int) (d:Row):aZ:=lP (ko p).toNat (ir p seed (dW p)) (gi p.1.toNat p.2.1.toNat p.2.2.toNat d)
structure bV (p:Int×Int×Int) (seed:Int) (d:Row) (K H w n:Nat):Prop where
 may:cF p=true
 full:wi p seed (dW p)=true
 k:p.1=K
 h:p.2.1=H
 s:p.2.2=w
 n:n=K+H
 k1:1≤K
 k2:K≤16
 h1:1≤H
 h2:H≤4
 w1:1≤w
 w2:w≤24
 len:d.length=K*w
section
variable {p:Int×Int×Int} {seed:Int} {d:Row} {K H w n:Nat}
theorem bV.AX (B:bV p seed d K H w n):ko p=n:=by rw[tN B.may,B.k,B.h,B.n];rfl
theorem bV.wq (B:bV p seed d K H w n):(ko p).toNat=n:=by rw[B.AX];rfl
theorem wu (hK:p.1=(K:Int)) (h:K≤16):dW p=upto K:=by
 rw[dW];congr 1;omega
theorem uO (h:K≤16):(upto K).filter pA=upto K:=by
 rw[List.filter_eq_self]
 intro x hx
 simp[upto]at hx
 obtain⟨a,ha,rfl⟩:=hx
 simp[pA];omega
theorem bV.zy (B:bV p seed d K H w n):ir p seed (dW p)=iV K H++(List.range K).map fun i:Nat=>yD n seed (i:Int):=by
 rw[ir,if_pos B.may,wu B.k B.k2,uO B.k2,B.k,B.h,B.wq,Int.toNat_natCast,Int.toNat_natCast,upto,List.map_map]
 rfl
theorem bV.tQ (B:bV p seed d K H w n):(ir p seed (dW p)).length=n:=by
 rw[B.zy,List.length_append,List.length_map,List.length_range,iV,List.length_map,List.length_range,B.n];omega
theorem bV.vK (B:bV p seed d K H w n):aM n (ir p seed (dW p)):=by
 have:=xA p seed (dW p)
 rwa [B.wq]at this
theorem bV.BW (B:bV p seed d K H w n):cY (ir p seed (dW p))=n:=by
 have h:=B.full
 rw[wi,B.may,B.AX,zI]at h
 simp at h
 exact Int.ofNat.inj h
theorem xC (K H w:Nat) (d:Row):(gi K H w d).length=K+H:=by simp[gi];omega
theorem pL (hl:d.length=K*w):aM w (gi K H w d):=fun r hr=>by
 rcases List.mem_append.1 hr with h|h
 ·rw[(List.mem_replicate.1 h).2];simp[bO]
 ·obtain⟨i,hi,rfl⟩:=List.mem_map.1 h
  rw[List.mem_range]at hi
  exact z7 (by rw[hl];exact Nat.mul_le_mul_right w hi)
theorem xD {i:Nat} (hi:i<H):aD (gi K H w d) i=bO w:=by
 rw[aD,gi,List.getD_eq_getElem?_getD,List.getElem?_append_left (by simpa using hi)];simp[hi]
theorem bV.oo (B:bV p seed d K H w n):wo p seed d=lP n (ir p seed (dW p)) (gi K H w d):=by
 rw[wo,B.wq,B.k,B.h,B.s];rfl
theorem bV.lens (B:bV p seed d K H w n):(ir p seed (dW p)).length=(gi K H w d).length:=by rw[B.tQ,xC,B.n]
theorem bV.mW (B:bV p seed d K H w n):mW n w (ir p seed (dW p)) (gi K H w d) (wo p seed d):=by
 rw[B.oo]
 exact wm B.lens B.vK (pL B.len) B.BW (uN B.lens B.vK (pL B.len) B.tQ)
theorem bV.AY (B:bV p seed d K H w n) {i:Nat} (hi:i<H):aD (ir p seed (dW p)) i=jR K H i:=by
 rw[B.zy,aD,List.getD_eq_getElem?_getD,List.getElem?_append_left (by simpa[iV]using hi)];simp[iV,hi]
theorem bV.low (B:bV p seed d K H w n) {i:Nat} (hi:i<H):lO w (jR K H i) (wo p seed d) n=bO w:=by
 have:=B.mW.2.2 i (by rw[B.tQ,B.n];omega)
 rwa [B.AY hi,xD hi]at this
theorem bV.n1 (B:bV p seed d K H w n):1≤n:=by have:=B.n;have:=B.k1;omega
theorem bV.n2 (B:bV p seed d K H w n):n≤20:=by have:=B.n;have:=B.k2;have:=B.h2;omega
end
end Wl
namespace Go.Vc
open Go
theorem uP {α:Type} {e2 k:Nat} {f:α→List Value}:∀{rs:List Sl} {ll:List (List α)} (rs':List Sl) (ll':List (List α)),rs.length=ll.length→cq e2 k f (rs++rs') (ll++ll')=cq e2 k f rs ll++cq e2 k f rs' ll':=by
 intro rs ll rs' ll' h
 unfold cq
 exact List.zipWith_append h
theorem aa.yP {B:ag} {h0 h:Heap} {X:HP}:∀{L M:List HP},aa B h0 h (L++X::M)→aa B h0 h (L++M):=fun{L M} H=>by
 have:=H.del L.length
 rwa [List.eraseIdx_append_of_length_le (Nat.le_refl _),Nat.sub_self,List.eraseIdx_cons_zero]at this
section
variable {α:Type} {C:Ctx} {B:ag} {h0 h h':Heap} {As:List HP} {e e2 k t t2 by_:Nat} {s s2:Sl} {f:α→List Value} {ll l2:List (List α)}
theorem aa.Aj (hC:C.Ok) (H:aa B h0 h (fv e s e2 k f ll::fv e s2 e2 k f l2::As)) (he:bk C.tokX t e 1 [.slice none 0 0] 24) (h2:∃i e2,C.T.get t2=some i∧i.bj=.slice e2) (hsz:ll.length+l2.length≤2^32) {ty:Nat} {K:Sl→Heap→Prop}
  (hk:∀s' h',aa B h0 h' (fv e s' e2 k f (ll++l2)::As)→K s' h'):
  av C.P (Builtin.append_ #[t,t2] ty #[.slice s.ptr s.len s.cap,.slice s2.ptr s2.len s2.cap]) (.one (.sc .slc)) h K:=by
 obtain⟨rs,hl,H1⟩:=H.py
 obtain⟨L1,hL1⟩:∃L1,L1=cq e2 k f rs ll:=⟨_,rfl⟩
 rw[←hL1]at H1
 have H2:aa B h0 h (fv e s2 e2 k f l2::(As++(aq e s 1 cv rs::L1))):=H1.front
 obtain⟨rs2,hl2,H3⟩:=H2.py
 obtain⟨L2,hL2⟩:∃L2,L2=cq e2 k f rs2 l2:=⟨_,rfl⟩
 rw[←hL2]at H3
 have H4:=H3.front
 rw[List.append_assoc]at H4
 have H5:=H4.front
 have H6:aa B h0 h (aq e s 1 cv rs::(L1++(aq e s2 1 cv rs2::(L2++As)))):=by
  have e0:(aq e s 1 cv rs::L1++(aq e s2 1 cv rs2::L2))++As=aq e s 1 cv rs::(L1++(aq e s2 1 cv rs2::(L2++As))):=by simp
  rw[←e0];exact H5
 have hv:Seq h (fun b=>b<h.size) s2 1 cv rs2:=H6.seq (L1.length+1) (by rw[List.getElem?_cons_succ,List.getElem?_append_right (Nat.le_refl _),Nat.sub_self];rfl) fun _=>rfl
 refine H6.append hC 0 rfl he h2 rfl (by decide) (fun _=>rfl) hv tl (by omega) fun s' h' H7=>hk s' h' ?_
 have H7:aa B h0 h' ((aq e s' 1 cv (rs++rs2)::L1)++(aq e s2 1 cv rs2::(L2++As))):=H7
 have H8:=aa.yP H7
 refine aa.tv (rs:=rs++rs2) (by simp[hl,hl2]) ?_
 rw[uP rs2 l2 hl,←hL1,←hL2]
 have e1:(aq e s' 1 cv (rs++rs2)::(L1++L2))++As=(aq e s' 1 cv (rs++rs2)::L1)++(L2++As):=by simp
 rw[e1];exact H8
end
end Go.Vc
namespace Go.Vc
open Go
abbrev mY:=FloatKind.format .f64
end Go.Vc
