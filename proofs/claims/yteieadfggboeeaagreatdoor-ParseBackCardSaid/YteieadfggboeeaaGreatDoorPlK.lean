/- Part of the proofs that the laws of this seat answer true whatever the input reads, and leave it as it was; no condition. -/
import Derived.Test.YteieadfggboeeaaGreatDoorPlH
import Derived.Test.YteieadfggboeeaaGreatDoorPlA
set_option linter.unusedVariables false
set_option linter.unusedSimpArgs false
namespace Go.Vc
open Go
section
variable {α:Type} {C:Ctx} {B:ak} {h0 h h':Heap} {As:List HP} {e e2 k t t2 by_:Nat} {s s2:Sl} {f:α→List Value} {ll l2:List (List α)}
end
end Go.Vc
namespace Go.Qw
open Go Go.Vc
abbrev rA:=Int×Sl×Sl×Int×Int×Int×Sl×Int
abbrev kv (y:rA):List Value:=[.int .i64 y.1,.slice y.2.1.ptr y.2.1.len y.2.1.cap,.slice y.2.2.1.ptr y.2.2.1.len y.2.2.1.cap,.int .i64 y.2.2.2.1,.int .i64 y.2.2.2.2.1,.int .i64 y.2.2.2.2.2.1,.slice y.2.2.2.2.2.2.1.ptr y.2.2.2.2.2.2.1.len y.2.2.2.2.2.2.1.cap,.int .i64 y.2.2.2.2.2.2.2]
abbrev ui (y:rA):Value:=.agg (kv y).toArray
abbrev aD:Sl:=⟨none,0,0⟩
abbrev fT (e:Int):rA:=(e,aD,aD,0,0,0,aD,0)
end Go.Qw
namespace Go.Vc
open Go
section
variable {C:Ctx} {h:Heap} {t e ts:Nat}
end
end Go.Vc
