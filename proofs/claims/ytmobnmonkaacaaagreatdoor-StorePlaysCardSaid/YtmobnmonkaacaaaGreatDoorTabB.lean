/- Lemmas for the proof of the law; no condition. -/
import Derived.Test.YtmobnmonkaacaaaGreatDoorTabA
set_option linter.unusedVariables false
open Go.Value renaming agg -> xM, bool -> xL, int -> xH, slice -> xI
open Go.IntKind renaming i64 -> xN, u8 -> xO, wrap -> qc
open Go.Proofs.Tryz
set_option maxRecDepth 1000000
namespace Go.Qw
open Go.Proofs
variable {R:vQ} {h:Heap}
theorem FI(a:Int)(b:Ca 131 #[a,(xH xN 0),(xH xN 15)] rG h λc d=>R (xL (!c)) d):Me 205 #[a] h R:=tie func205 .n b
theorem iJ(b:Sl)(a:Ls)(i:fP (σ:=Int) (λc j d=>Br (c<(b.len:Int)) (nl b c λg=>gb d (g.add (c.toNat*1)) λx3=>vI C a.1 (a.2.1.toList++[(xH xN x3)]++a.2.2.toList) rG d λf e=>Br f (R c e) (j (qc xN (c+1)) e)) (R (xH xN (-1:Int)) d)) (0:Int) h):Me 206 #[b,(.func (.func a.1) a.2.1 a.2.2)] h R:=tie func206 (cg.tn (.two (cg.tn (.inn (.loop [(8,aI)] [(4,6),(8,19)] .n))) .n)) i
theorem FJ(b:Sl)(a:Addr)(e:oZ h a λf=>Ca 220 #[b,f] rG h λd c=>R d c):Me 219 #[b,a] h R:=tie func219 .n e
theorem lj(b:Sl)(a:Ls)(i:fP (σ:=Int) (λc j d=>Br (c<(b.len:Int)) (nl b c λg=>∃x3:Int×Sl,aZ d (g.add (c.toNat*2)) 0 x3/\vI C a.1 (a.2.1.toList++[(xM #[x3.1,x3.2])]++a.2.2.toList) rG d λf e=>Br f (R c e) (j (qc xN (c+1)) e)) (R (xH xN (-1:Int)) d)) (0:Int) h):Me 221 #[b,(.func (.func a.1) a.2.1 a.2.2)] h R:=tie func221 (cg.tn (.two (cg.tn (.inn (.loop [(8,aI)] [(4,6),(8,19)] .n))) .n)) i
theorem Aq(a:Sl)(e:fP (σ:=Int) (λc f b=>Br (c<(a.len:Int)) (nl a c λd=>gb b (d.add (c.toNat*1)) λx3=>Br (x3 !=0) (R x3 b) (f (qc xN (c+1)) b)) (R (xH xN 0) b)) (0:Int) h):Me 243 #[a] h R:=tie func243 (cg.tn (cg.tn (.two (cg.tn (.inn (.loop [(8,aI)] [(2,3),(5,6),(8,17)] .n))) .n))) e
theorem nr(b:Sl)(a:Ls)(i:fP (σ:=Int) (λc j d=>Br (c<(b.len:Int)) (nl b c λg=>oZ d (g.add (c.toNat*1)) λx3=>vI C a.1 (a.2.1.toList++[(xI x3.ptr x3.len x3.cap)]++a.2.2.toList) rG d λf e=>Br f (R c e) (j (qc xN (c+1)) e)) (R (xH xN (-1:Int)) d)) (0:Int) h):Me 279 #[b,(.func (.func a.1) a.2.1 a.2.2)] h R:=tie func279 (cg.tn (.two (cg.tn (.inn (.loop [(8,aI)] [(4,6),(8,19)] .n))) .n)) i
theorem oK(b:Sl)(a:Ls)(i:fP (σ:=Int) (λc j d=>Br (c<(b.len:Int)) (nl b c λg=>LdK .u8 d (g.add (c.toNat*1)) λx3=>vI C a.1 (a.2.1.toList++[(xH xO x3)]++a.2.2.toList) rG d λf e=>Br f (R c e) (j (qc xN (c+1)) e)) (R (xH xN (-1:Int)) d)) (0:Int) h):Me 348 #[b,(.func (.func a.1) a.2.1 a.2.2)] h R:=tie func348 (cg.tn (.two (cg.tn (.inn (.loop [(8,aI)] [(4,6),(8,19)] .n))) .n)) i
end Go.Qw
