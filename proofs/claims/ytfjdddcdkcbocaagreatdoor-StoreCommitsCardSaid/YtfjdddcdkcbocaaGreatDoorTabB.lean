/- Lemmas for the proof of the law; no condition. -/
import Derived.Test.YtfjdddcdkcbocaaGreatDoorTabA
set_option linter.unusedVariables false
open Go.Value renaming agg -> xU, bool -> xT, int -> xP, slice -> xQ
open Go.IntKind renaming i64 -> xV, u8 -> xW, wrap -> qe
open Go.Proofs.Tryz
set_option maxRecDepth 1000000
namespace Go.Qw
open Go.Proofs
variable {R:vq} {h:Heap}
theorem FL(a:Int)(c:Ca 117 #[a,(xP xV 0),(xP xV 15)] EM h λb d=>R (xT (!b)) d):Me 189 #[a] h R:=tie func189 .n c
theorem iL(b:Sl)(a:LD)(g:gU (σ:=Int) (λc f d=>Br (c<(b.len:Int)) (BV b c λi=>ji d (i.add (c.toNat*1)) λx3=>th C a.1 (a.2.1.toList++[(xP xV x3)]++a.2.2.toList) EM d λj e=>Br j (R c e) (f (qe xV (c+1)) e)) (R (xP xV (-1:Int)) d)) (0:Int) h):Me 192 #[b,(.func (.func a.1) a.2.1 a.2.2)] h R:=tie func192 (cT.tn (.two (cT.tn (.inn (.loop [(8,aH)] [(4,6),(8,19)] .n))) .n)) g
theorem Aw(a:Sl)(e:gU (σ:=Int) (λb d c=>Br (b<(a.len:Int)) (BV a b λf=>ji c (f.add (b.toNat*1)) λx3=>Br (x3 !=0) (R x3 c) (d (qe xV (b+1)) c)) (R (xP xV 0) c)) (0:Int) h):Me 216 #[a] h R:=tie func216 (cT.tn (cT.tn (.two (cT.tn (.inn (.loop [(8,aH)] [(2,3),(5,6),(8,17)] .n))) .n))) e
theorem FM(b:Sl)(a:Addr)(d:Dc h a λc=>Ca 241 #[b,c] EM h λf e=>R f e):Me 240 #[b,a] h R:=tie func240 .n d
theorem lu(b:Sl)(a:LD)(f:gU (σ:=Int) (λc j d=>Br (c<(b.len:Int)) (BV b c λg=>∃x3:Int×Sl,bA d (g.add (c.toNat*2)) 0 x3/\th C a.1 (a.2.1.toList++[(xU #[x3.1,x3.2])]++a.2.2.toList) EM d λi e=>Br i (R c e) (j (qe xV (c+1)) e)) (R (xP xV (-1:Int)) d)) (0:Int) h):Me 242 #[b,(.func (.func a.1) a.2.1 a.2.2)] h R:=tie func242 (cT.tn (.two (cT.tn (.inn (.loop [(8,aH)] [(4,6),(8,19)] .n))) .n)) f
theorem nv(b:Sl)(a:LD)(g:gU (σ:=Int) (λc f d=>Br (c<(b.len:Int)) (BV b c λi=>Dc d (i.add (c.toNat*1)) λx3=>th C a.1 (a.2.1.toList++[(xQ x3.ptr x3.len x3.cap)]++a.2.2.toList) EM d λj e=>Br j (R c e) (f (qe xV (c+1)) e)) (R (xP xV (-1:Int)) d)) (0:Int) h):Me 298 #[b,(.func (.func a.1) a.2.1 a.2.2)] h R:=tie func298 (cT.tn (.two (cT.tn (.inn (.loop [(8,aH)] [(4,6),(8,19)] .n))) .n)) g
theorem oT(b:Sl)(a:LD)(g:gU (σ:=Int) (λc f d=>Br (c<(b.len:Int)) (BV b c λi=>LdK .u8 d (i.add (c.toNat*1)) λx3=>th C a.1 (a.2.1.toList++[(xP xW x3)]++a.2.2.toList) EM d λj e=>Br j (R c e) (f (qe xV (c+1)) e)) (R (xP xV (-1:Int)) d)) (0:Int) h):Me 338 #[b,(.func (.func a.1) a.2.1 a.2.2)] h R:=tie func338 (cT.tn (.two (cT.tn (.inn (.loop [(8,aH)] [(4,6),(8,19)] .n))) .n)) g
end Go.Qw
