/- Part of the proofs that the laws of this seat answer true whatever the input reads, and leave it as it was; no condition. -/
import Derived.Test.YteieadfggboeeaaGreatDoorPlO
import Derived.SevenTiedAt
set_option linter.unusedVariables false
set_option linter.unusedSimpArgs false
namespace Go
theorem vq {P:Program} (h:P.funcs.any Func.goes=false) (f:FuncId):P.goes f=false:=by
 have h2:∀g:FuncId,(P.funcs[g]?).any Func.goes=false:=fun g=>by
  cases hg:P.funcs[g]? with
  |none=>rfl
  |some x=>
   show Func.goes x=false
   obtain⟨hl,e⟩:=Array.getElem?_eq_some_iff.1 hg
   cases hx:Func.goes x with
   |false=>rfl
   |true=>
    have:P.funcs.any Func.goes=true:=Array.any_eq_true.2 ⟨g,hl,by rw[e];exact hx⟩
    rw[h]at this;cases this
 unfold Program.goes
 rw[h,Bool.and_false,Bool.or_false]
 simp only[h2]
 simp
theorem sB {P:Program} {c:OpenClaim} (h:P.funcs.any Func.goes=false):c.goesBy P=false:=by
 have h1:∀f,P.goes f=false:=vq h
 unfold OpenClaim.goesBy Program.goesAt Program.goesFrom
 have h2:(P.funcNamed c.func).any P.goes=false:=by
  cases P.funcNamed c.func with
  |none=>rfl
  |some f=>exact h1 f
 have h3:P.inits.toList.any P.goes=false:=List.any_eq_false.2 fun f _=>by rw[h1 f];exact Bool.false_ne_true
 rw[h2,h3]
 cases c.start<;>rfl
end Go
