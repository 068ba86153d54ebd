/- Lemmas for the proof of the law; no condition. -/
import Derived.Test.YtcjnjifdphcijaaGreatDoorTTabA
set_option linter.unusedVariables false
open Go.Value renaming bool -> xD, int -> xz, slice -> xA
open Go.IntKind renaming i64 -> xF, u8 -> xG, wrap -> qe
set_option maxRecDepth 1000000
namespace Go.Qw
open Go.Proofs
variable {R:rI} {h:Heap}
theorem FI(a:Int)(c:Ca 172 #[a,(xz xF 0),(xz xF 15)] EP h λb d=>R (xD (!b)) d):Me 235 #[a] h R:=tie Tryz.func235 .n c
theorem nj(b:Sl)(a:Iv)(i:gm (σ:=Int) (λc g d=>Br (c<(b.len:Int)) (se b c λj=>MK d (j.add (c.toNat*1)) λx3=>sX C a.1 (a.2.1.toList++[(xA x3.ptr x3.len x3.cap)]++a.2.2.toList) EP d λf e=>Br f (R c e) (g (qe xF (c+1)) e)) (R (xz xF (-1:Int)) d)) (0:Int) h):Me 266 #[b,(.func (.func a.1) a.2.1 a.2.2)] h R:=tie Tryz.func266 (bZ.tn (.two (bZ.tn (.inn (.loop [(8,aT)] [(4,6),(8,19)] .n))) .n)) i
theorem oH(b:Sl)(a:Iv)(i:gm (σ:=Int) (λc g d=>Br (c<(b.len:Int)) (se b c λj=>LdK .u8 d (j.add (c.toNat*1)) λx3=>sX C a.1 (a.2.1.toList++[(xz xG x3)]++a.2.2.toList) EP d λf e=>Br f (R c e) (g (qe xF (c+1)) e)) (R (xz xF (-1:Int)) d)) (0:Int) h):Me 309 #[b,(.func (.func a.1) a.2.1 a.2.2)] h R:=tie Tryz.func309 (bZ.tn (.two (bZ.tn (.inn (.loop [(8,aT)] [(4,6),(8,19)] .n))) .n)) i
theorem od(b:Sl)(a:Iv)(i:gm (σ:=Int) (λc g d=>Br (c<(b.len:Int)) (se b c λj=>MK d (j.add (c.toNat*1)) λx3=>sX C a.1 (a.2.1.toList++[(xA x3.ptr x3.len x3.cap)]++a.2.2.toList) EP d λf e=>Br f (R c e) (g (qe xF (c+1)) e)) (R (xz xF (-1:Int)) d)) (0:Int) h):Me 339 #[b,(.func (.func a.1) a.2.1 a.2.2)] h R:=tie Tryz.func339 (bZ.tn (.two (bZ.tn (.inn (.loop [(8,aT)] [(4,6),(8,19)] .n))) .n)) i
end Go.Qw
