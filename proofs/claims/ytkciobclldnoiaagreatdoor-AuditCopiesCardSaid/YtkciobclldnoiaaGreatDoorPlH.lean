/- Part of the proofs that the laws of this seat answer true whatever the input reads, and leave it as it was; no condition. -/
import Derived.Test.YtkciobclldnoiaaGreatDoorPlE
import Derived.Test.YtkciobclldnoiaaGreatDoorPlC
import Derived.Test.YtkciobclldnoiaaGreatDoorPlA
set_option linter.unusedVariables false
set_option linter.unusedSimpArgs false
namespace Wl
open Go
def jn (o b t:Int):Int:=(128*o+16*b+t)%4294967296
def k7 (m:aZ) (r:dO):Bool:=kA r&&(decide (r.p=m.p)&&m.aJ.any fun x=>decide (x.object=r.object)&&(decide (r.block<(x.tries.length:Int))&&decide (r.seed=jn r.object r.block (x.tries.getD r.block.toNat 0))))
def Gl (a b:dO):Bool:=decide (a.object<b.object∨(a.object=b.object∧(a.block<b.block∨(a.block=b.block∧a.id≤b.id))))
def Gm (a b:dO):Bool:=decide (a.object=b.object∧a.block=b.block∧a.id=b.id)
def ui:dO:=⟨0,0,0,(0,0,0),0,[]⟩
def uj (l:List dO) (k:Nat):Bool:=decide (k=0)||!Gm (l.getD k ui) (l.getD (k-1) ui)
def zt (l:List dO):List dO:=((List.range l.length).filter (uj l)).map fun i=>l.getD i ui
def gG (m:aZ) (c:List UInt8):Option dO:=match fQ c with|some r=>if k7 m r then some r else none|none=>none
def kU (m:aZ) (l:List (List UInt8)):List dO:=zt ((l.filterMap (gG m)).mergeSort Gl)
theorem CQ (m:aZ) (l:List (List UInt8)) (i:Nat) (hi:i<l.length):(l.take (i+1)).filterMap (gG m)=(l.take i).filterMap (gG m)++(gG m l[i]).toList:=by
 have:l.take (i+1)=l.take i++[l[i]]:=by rw[List.take_add_one,List.getElem?_eq_getElem hi];rfl
 rw[this,List.filterMap_append]
 cases hg:gG m l[i]with
 |none=>simp[hg]
 |some r=>simp[hg]
end Wl
namespace Go.Vc
open Go
section
variable {B:aj} {α:Type} {C:Ctx} {h0 h:Heap} {As:List HP} {e t k by_:Nat} {s:Sl} {f:α→List Value} {l:List α} {z:List Value}
theorem oL (z:List Value) (n:Nat):(Builtin.zeroCells z.toArray n).toList.length=n*z.length:=by
 simp[Builtin.zeroCells]
theorem xI {z:List Value} (hz:∀v∈z,v.oneCell'=true) (n:Nat):∀v∈(Builtin.zeroCells z.toArray n).toList,v.oneCell'=true:=by
 intro v hv
 simp only[Builtin.zeroCells,Array.toList_map,List.mem_map,Array.mem_toList_iff,Array.mem_range]at hv
 obtain⟨i,hi,rfl⟩:=hv
 simp only[List.size_toArray]at hi⊢
 have h0:0<z.length:=by
  rcases Nat.eq_zero_or_pos z.length with h|h
  ·rw[h]at hi;simp at hi
  ·exact h
 have hlt:=Nat.mod_lt i h0
 rw[getElem!_pos z.toArray _ (by simpa using hlt)]
 exact hz _ (by simp)
theorem Own.qc (hC:C.Ok) (ho:Own h e s k f l) (he:bt C.tomV t e k z by_) (hw:∀x,(f x).length=k) (hz:z.length=k) (hone:∀v∈z,v.oneCell'=true) (j:Nat) (hj:j≤l.length) {ty:Nat} {K:Heap→Prop}
  (hk:∀h',Own h' e ⟨s.ptr,j,s.cap⟩ k f (l.take j)→aD (fun b=>¬s.on b) h h'→K h'):
  ab C.P (Builtin.clear_ #[t] ty #[.slice (if s.cap=j then s.ptr else s.ptr.map (·.add (j*k))) (s.len-j) (s.cap-j)]) h fun _ h'=>K h':=by
 have hl:=ho.len
 have hcut:=ho.cut hw j hj
 unfold Builtin.clear_
 refine ab.bind (ab.always (aq (he.under hC)) ?_)
 by_cases hjl:j=l.length
 ·have e0:s.len-j=0:=by omega
  rw[e0]
  generalize (if s.cap=j then s.ptr else s.ptr.map (·.add (j*k)))=q
  cases q with
  |none=>exact ab.pure' (hk h hcut (aD.refl _ _))
  |some a=>exact ab.pure' (hk h hcut (aD.refl _ _))
 ·rcases ho.head with⟨h1,h2,h3⟩|⟨b,rest,h1,h2,h3,h4⟩
  ·subst h3;simp at hj hjl;omega
  ·have hne:s.cap≠j:=by omega
   rw[if_neg hne,h1]
   obtain⟨m,hm⟩:∃m,s.len-j=m+1:=⟨s.len-j-1,by omega⟩
   rw[hm]
   obtain⟨i2,j2,g1,g2,g3,g4,g5,g6⟩:=he.ex
   obtain⟨zv,z1,z2⟩:=j4 hC.toOk g3
   refine ab.bind (ab.always z1 ?_)
   have hzc:zv.cells=z.toArray:=by apply Array.ext';rw[z2,g5]
   rw[hzc]
   refine ab.bind ?_
   have e1:((⟨b,0,none⟩:Addr).add (j*k))=⟨b,j*k,none⟩:=by simp[add_eq]
   show ab C.P (storeCells ((⟨b,0,none⟩:Addr).add (j*k)) (Builtin.zeroCells z.toArray (m+1)).toList) h _
   rw[e1]
   have hfl:(l.drop j).length=m+1:=by simp;omega
   refine bV (e:=e) (pre:=(l.take j).flatMap f) (old:=(l.drop j).flatMap f) (post:=rest) ?_ ?_ ?_ (xI hone _) ?_
   ·rw[←List.flatMap_append,List.take_append_drop];exact h2
   ·rw[ck hw,hfl,oL,hz]
   ·rw[ck hw,List.length_take,Nat.min_eq_left (by omega)];omega
   ·refine ab.pure' (hk _ ⟨by simp;omega,.inr ⟨b,(Builtin.zeroCells z.toArray (m+1)).toList++rest,h1,?_,?_,by dsimp only;omega⟩⟩ ?_)
    ·rw[di h2,if_pos rfl];simp
    ·rw[List.length_append,oL,hz,h3,←Nat.add_mul];dsimp only;congr 1;omega
    ·exact aD.dI h2 fun hh=>hh ⟨0,h1⟩
theorem aa.qc (hC:C.Ok) (H:aa B h0 h As) (i:Nat) (hi:As[i]?=some (an e s k f l)) (he:bt C.tomV t e k z by_) (hw:∀x,(f x).length=k) (hz:z.length=k) (hone:∀v∈z,v.oneCell'=true) (j:Nat) (hj:j≤l.length) {ty:Nat} {K:Heap→Prop}
  (hk:∀h',aa B h0 h' (As.set i (an e ⟨s.ptr,j,s.cap⟩ k f (l.take j)))→K h'):
  ab C.P (Builtin.clear_ #[t] ty #[.slice (if s.cap=j then s.ptr else s.ptr.map (·.add (j*k))) (s.len-j) (s.cap-j)]) h fun _ h'=>K h':=
 (H.own i hi).qc hC he hw hz hone j hj fun h' x y=>hk h' (H.step i hi fun q hq _=>⟨y.mono fun b _ hb hon=>hb (hq.2 b hon),x,fun b hb=>⟨x.lt hb,.inl (hq.2 b hb)⟩⟩)
end
end Go.Vc
namespace Wl
open Go
theorem Ce:∀x y z:List UInt8,Op.bytesLess x y=true→Op.bytesLess y z=true→Op.bytesLess x z=true
 |x,[],_,h1,_=>by cases x<;>simp[Op.bytesLess]at h1
 |_,b::y,[],_,h2=>by simp[Op.bytesLess]at h2
 |[],_::_,_::_,_,_=>rfl
 |a::x,b::y,c::z,h1,h2=>by
  simp only[Op.bytesLess,Bool.or_eq_true,decide_eq_true_eq,Bool.and_eq_true,beq_iff_eq]at h1 h2⊢
  rcases h1 with h1|⟨rfl,h1⟩
  ·rcases h2 with h2|⟨rfl,h2⟩
   ·exact .inl (UInt8.lt_iff_toNat_lt.2 (by have:=UInt8.lt_iff_toNat_lt.1 h1;have:=UInt8.lt_iff_toNat_lt.1 h2;omega))
   ·exact .inl h1
  ·rcases h2 with h2|⟨rfl,h2⟩
   ·exact .inl h2
   ·exact .inr ⟨rfl,Ce x y z h1 h2⟩
end Wl
namespace Go.Vc
open Go
section
variable {α:Type} {C:Ctx} {B:aj} {h0 h h':Heap} {As:List HP} {e e2 k t t2 by_:Nat} {s s2:Sl} {f:α→List Value} {ll l2:List (List α)}
end
end Go.Vc
namespace Go.Vc
open Go
abbrev qd:=FloatKind.format .f64
end Go.Vc
