/- Lemmas for the proof of the law; no condition. -/
import Derived.Test.YtcjnjifdphcijaaGreatDoorTabA
set_option linter.unusedVariables false
open Go.Value renaming bool -> xN, int -> xJ, slice -> xK
open Go.IntKind renaming i64 -> xP, u8 -> xQ, wrap -> qe
set_option maxRecDepth 1000000
namespace Go.Qw
open Go.Proofs
variable {R:Bd} {h:Heap}
theorem HN(a:Int)(d:Ca 172 #[a,(xJ xP 0),(xJ xP 15)] Jf h λc b=>R (xN (!c)) b):Me 235 #[a] h R:=tie Tryz.func235 .n d
theorem ot(b:Sl)(a:Kz)(g:gX (σ:=Int) (λc K1 d=>Br (c<(b.len:Int)) (uT b c λi=>LdS d (i.add (c.toNat*1)) λx3=>uB C a.1 (a.2.1.toList++[(xK x3.ptr x3.len x3.cap)]++a.2.2.toList) Jf d λf e=>Br f (R c e) (K1 (qe xP (c+1)) e)) (R (xJ xP (-1:Int)) d)) (0:Int) h):Me 266 #[b,(.func (.func a.1) a.2.1 a.2.2)] h R:=tie Tryz.func266 (cN.tn (.two (cN.tn (.inn (.loop [(8,aU)] [(4,6),(8,19)] .n))) .n)) g
theorem pS(b:Sl)(a:Kz)(g:gX (σ:=Int) (λc K1 d=>Br (c<(b.len:Int)) (uT b c λi=>LdK .u8 d (i.add (c.toNat*1)) λx3=>uB C a.1 (a.2.1.toList++[(xJ xQ x3)]++a.2.2.toList) Jf d λf e=>Br f (R c e) (K1 (qe xP (c+1)) e)) (R (xJ xP (-1:Int)) d)) (0:Int) h):Me 309 #[b,(.func (.func a.1) a.2.1 a.2.2)] h R:=tie Tryz.func309 (cN.tn (.two (cN.tn (.inn (.loop [(8,aU)] [(4,6),(8,19)] .n))) .n)) g
theorem py(b:Sl)(a:Kz)(g:gX (σ:=Int) (λc K1 d=>Br (c<(b.len:Int)) (uT b c λi=>LdS d (i.add (c.toNat*1)) λx3=>uB C a.1 (a.2.1.toList++[(xK x3.ptr x3.len x3.cap)]++a.2.2.toList) Jf d λf e=>Br f (R c e) (K1 (qe xP (c+1)) e)) (R (xJ xP (-1:Int)) d)) (0:Int) h):Me 339 #[b,(.func (.func a.1) a.2.1 a.2.2)] h R:=tie Tryz.func339 (cN.tn (.two (cN.tn (.inn (.loop [(8,aU)] [(4,6),(8,19)] .n))) .n)) g
end Go.Qw
