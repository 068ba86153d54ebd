/- Lemmas for the proof of the law; no condition. -/
import Derived.Test.YtodpiocopjpjpaaGreatDoorTabA
set_option linter.unusedVariables false
open Go.Value renaming int -> xU, slice -> xV
open Go.IntKind renaming i64 -> ka, u8 -> kb, wrap -> qd
set_option maxRecDepth 1000000
namespace Go.Qw
open Go.Proofs
variable {R:tJ} {h:Heap}
theorem rj(b:Sl)(a:Hz)(g:iu (σ:=Int) (λc i d=>Br (c<(b.len:Int)) (Ae b c λf=>LdK .u8 d (f.add (c.toNat*1)) λx3=>tI C a.1 (a.2.1.toList++[(xU kb x3)]++a.2.2.toList) Mu d λj e=>Br j (R c e) (i (qd ka (c+1)) e)) (R (xU ka (-1:Int)) d)) (0:Int) h):Me 329 #[b,(.func (.func a.1) a.2.1 a.2.2)] h R:=tie Tryz.func329 (cO.tn (.two (cO.tn (.inn (.loop [(8,aR)] [(4,6),(8,19)] .n))) .n)) g
theorem pE(b:Sl)(a:Hz)(g:iu (σ:=Int) (λc i d=>Br (c<(b.len:Int)) (Ae b c λf=>LdS d (f.add (c.toNat*1)) λx3=>tI C a.1 (a.2.1.toList++[(xV x3.ptr x3.len x3.cap)]++a.2.2.toList) Mu d λj e=>Br j (R c e) (i (qd ka (c+1)) e)) (R (xU ka (-1:Int)) d)) (0:Int) h):Me 359 #[b,(.func (.func a.1) a.2.1 a.2.2)] h R:=tie Tryz.func359 (cO.tn (.two (cO.tn (.inn (.loop [(8,aR)] [(4,6),(8,19)] .n))) .n)) g
end Go.Qw
