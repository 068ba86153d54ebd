/- Part of the proofs that the laws of this seat answer true whatever the input reads, and leave it as it was; no condition. -/
import Derived.Test.YteieadfggboeeaaGreatDoorPlH
import Derived.Test.YteieadfggboeeaaGreatDoorPlA
set_option linter.unusedVariables false
set_option linter.unusedSimpArgs false
namespace Go.Vc
open Go
section
variable {α:Type} {C:Ctx} {B:aj} {h0 h h':Heap} {As:List HP} {e e2 k t t2 by_:Nat} {s s2:Sl} {f:α→List Value} {ll l2:List (List α)}
end
end Go.Vc
namespace Go.Qw
open Go Go.Vc
abbrev ej:=Int×Sl×Sl×Int×Int×Int×Sl×Int
abbrev cE (y:ej):List Value:=[.int .i64 y.1,.slice y.2.1.ptr y.2.1.len y.2.1.cap,.slice y.2.2.1.ptr y.2.2.1.len y.2.2.1.cap,.int .i64 y.2.2.2.1,.int .i64 y.2.2.2.2.1,.int .i64 y.2.2.2.2.2.1,.slice y.2.2.2.2.2.2.1.ptr y.2.2.2.2.2.2.1.len y.2.2.2.2.2.2.1.cap,.int .i64 y.2.2.2.2.2.2.2]
abbrev jY (y:ej):Value:=.agg (cE y).toArray
abbrev aG:Sl:=⟨none,0,0⟩
abbrev gp (e:Int):ej:=(e,aG,aG,0,0,0,aG,0)
end Go.Qw
namespace Go.Vc
open Go
section
variable {C:Ctx} {h:Heap} {t e ts:Nat}
theorem ni:∀(l:List UInt8) (b:ByteArray),l.foldl ByteArray.push b=⟨(b.data.toList++l).toArray⟩
 |[],b=>by simp
 |x::l,b=>by
  rw[List.foldl_cons,ni l (b.push x)]
  simp[ByteArray.push]
theorem tE (hC:C.Ok) (ht:∃i,C.T.get t=some i∧i.aQ=.slice e) (hs:∃i,C.T.get ts=some i∧i.aQ=.str) (he:∃i,C.T.get e=some i∧i.aQ=.int .u8) {s:Sl} {l:List UInt8} {p:aj} (hv:Seq h p s 1 aB l) {K:ByteArray→Heap→Prop} (hk:K ⟨l.toArray⟩ h):
  au C.P (convert t ts (.slice s.ptr s.len s.cap)) (.one (.sc .str)) h K:=by
 obtain⟨i1,a1,b1⟩:=hs
 obtain⟨i2,a2,b2⟩:=ht
 obtain⟨i3,a3,b3⟩:=he
 have u1:C.P.underlying ts=some .string:=by have:=hC.aQ a1;rw[b1]at this;exact iC this
 have u2:C.P.underlying t=some (.slice e):=by have:=hC.aQ a2;rw[b2]at this;exact cS this
 have u3:C.P.underlying e=some (.int .u8):=by have:=hC.aQ a3;rw[b3]at this;exact mJ this
 unfold au convert
 refine aa.bind (aa.always (ak u2) ?_)
 refine aa.bind (aa.always (ak u1) ?_)
 refine aa.bind (aa.always (ak u3) ?_)
 unfold Conv.bytesToString
 have hfc:=ce (P:=C.P) (f:=aB) (k:=1) (K:=fun cs h'=>cs=(l.flatMap aB).toArray∧h'=h) (fun _=>rfl) hv ⟨rfl,rfl⟩
 cases hp:s.ptr with
 |none=>
  have:l=[]:=by
   cases l with
   |nil=>rfl
   |cons x r=>obtain⟨b,o,h1,_⟩:=hv.elem 0 x (by simp);rw[hp]at h1;cases h1
  subst this
  exact aa.pure' ⟨⟨#[]⟩,rfl,hk⟩
 |some a=>
  rw[hp]at hfc
  dsimp only
  have hfc':aa C.P (loadCells a s.len) h fun cs h'=>cs=(l.flatMap aB).toArray∧h'=h:=by
   have:Builtin.firstCells 1 s.len (.slice (some a) s.len s.cap)=loadCells a s.len:=by
    unfold Builtin.firstCells;simp
   rw[←this];exact hfc
  refine aa.bind (hfc'.mono ?_)
  rintro _ _ ⟨rfl,rfl⟩
  have key:∀(l:List UInt8) (b:ByteArray),ao C.P (forIn (m:=Sem) (l.flatMap aB) b fun c r=>match c with
    | .int .u8 n=>do pure (ForInStep.yield (r.push (UInt8.ofNat n.toNat)))
    |_=>do let r←stuck "bytesToString: byte expected";pure r) (l.foldl ByteArray.push b):=fun l=>by
   induction l with
   |nil=>intro b;exact .pure
   |cons x l ih=>
    intro b
    have e1:(x::l).flatMap aB=Value.int .u8 x.toNat::l.flatMap aB:=rfl
    rw[e1,List.forIn_cons]
    have e2:b.push (UInt8.ofNat ((x.toNat:Int)).toNat)=b.push x:=by
     rw[Int.toNat_natCast];congr 1;apply UInt8.toNat_inj.1;simp
    refine ao.bind (v:=ForInStep.yield (b.push x)) (by dsimp only;rw[e2];exact .pure) ?_
    exact ih _
  refine aa.bind (aa.always (v:=l.foldl ByteArray.push ByteArray.empty) ?_ ?_)
  ·rw[List.forIn_toArray]
   exact key l _
  ·refine aa.pure' ⟨_,rfl,?_⟩
   rw[ni]
   exact hk
end
end Go.Vc
