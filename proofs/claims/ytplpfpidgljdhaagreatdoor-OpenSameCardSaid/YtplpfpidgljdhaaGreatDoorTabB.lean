/- Lemmas for the proof of the law; no condition. -/
import Derived.Test.YtplpfpidgljdhaaGreatDoorTabA
set_option linter.unusedVariables false
open Go.Value renaming int -> xF, slice -> xG
open Go.IntKind renaming i64 -> xL, u8 -> xM, wrap -> qe
set_option maxRecDepth 1000000
namespace Go.Qw
open Go.Proofs
variable {R:Aw} {h:Heap}
theorem nT(b:Sl)(a:JJ)(g:gK (σ:=Int) (λc K1 d=>Br (c<(b.len:Int)) (uq b c λf=>LdS d (f.add (c.toNat*1)) λx3=>tV C a.1 (a.2.1.toList++[(xG x3.ptr x3.len x3.cap)]++a.2.2.toList) Lh d λi e=>Br i (R c e) (K1 (qe xL (c+1)) e)) (R (xF xL (-1:Int)) d)) (0:Int) h):Me 249 #[b,(.func (.func a.1) a.2.1 a.2.2)] h R:=tie Tryz.func249 (cN.tn (.two (cN.tn (.inn (.loop [(8,aQ)] [(4,6),(8,19)] .n))) .n)) g
theorem pu(b:Sl)(a:JJ)(g:gK (σ:=Int) (λc K1 d=>Br (c<(b.len:Int)) (uq b c λf=>LdK .u8 d (f.add (c.toNat*1)) λx3=>tV C a.1 (a.2.1.toList++[(xF xM x3)]++a.2.2.toList) Lh d λi e=>Br i (R c e) (K1 (qe xL (c+1)) e)) (R (xF xL (-1:Int)) d)) (0:Int) h):Me 293 #[b,(.func (.func a.1) a.2.1 a.2.2)] h R:=tie Tryz.func293 (cN.tn (.two (cN.tn (.inn (.loop [(8,aQ)] [(4,6),(8,19)] .n))) .n)) g
theorem oQ(b:Sl)(a:JJ)(g:gK (σ:=Int) (λc K1 d=>Br (c<(b.len:Int)) (uq b c λf=>LdS d (f.add (c.toNat*1)) λx3=>tV C a.1 (a.2.1.toList++[(xG x3.ptr x3.len x3.cap)]++a.2.2.toList) Lh d λi e=>Br i (R c e) (K1 (qe xL (c+1)) e)) (R (xF xL (-1:Int)) d)) (0:Int) h):Me 323 #[b,(.func (.func a.1) a.2.1 a.2.2)] h R:=tie Tryz.func323 (cN.tn (.two (cN.tn (.inn (.loop [(8,aQ)] [(4,6),(8,19)] .n))) .n)) g
end Go.Qw
