/- Lemmas for the proof of the law; no condition. -/
import Derived.Test.YtplpfpidgljdhaaGreatDoorTabA
set_option linter.unusedVariables false
open Go.Value renaming int -> xG, slice -> xH
open Go.IntKind renaming i64 -> xM, u8 -> xN, wrap -> qe
set_option maxRecDepth 1000000
namespace Go.Qw
open Go.Proofs
variable {R:wf} {h:Heap}
theorem oO(b:Sl)(a:Mr)(i:gU (σ:=Int) (λc K1 d=>Br (c<(b.len:Int)) (Nw b c λf=>LdK .u8 d (f.add (c.toNat*1)) λx3=>wd C a.1 (a.2.1.toList++[(xG xN x3)]++a.2.2.toList) RR d λg e=>Br g (R c e) (K1 (qe xM (c+1)) e)) (R (xG xM (-1:Int)) d)) (0:Int) h):Me 293 #[b,(.func (.func a.1) a.2.1 a.2.2)] h R:=tie Tryz.func293 (cJ.tn (.two (cJ.tn (.inn (.loop [(8,aS)] [(4,6),(8,19)] .n))) .n)) i
variable {R:wf} {h:Heap}
theorem ot(b:Sl)(a:Mr)(i:gU (σ:=Int) (λc K1 d=>Br (c<(b.len:Int)) (Nw b c λf=>LdS d (f.add (c.toNat*1)) λx3=>wd C a.1 (a.2.1.toList++[(xH x3.ptr x3.len x3.cap)]++a.2.2.toList) RR d λg e=>Br g (R c e) (K1 (qe xM (c+1)) e)) (R (xG xM (-1:Int)) d)) (0:Int) h):Me 323 #[b,(.func (.func a.1) a.2.1 a.2.2)] h R:=tie Tryz.func323 (cJ.tn (.two (cJ.tn (.inn (.loop [(8,aS)] [(4,6),(8,19)] .n))) .n)) i
end Go.Qw
