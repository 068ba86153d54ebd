/- Lemmas for the proof of the law; no condition. -/
import Derived.Test.YtmobnmonkaacaaaGreatDoorDTabA
set_option linter.unusedVariables false
open Go.Value renaming agg -> xO, bool -> xN, int -> xJ, slice -> xK
open Go.IntKind renaming i64 -> xP, u8 -> xQ, wrap -> qd
open Go.Proofs.Tryz
set_option maxRecDepth 1000000
namespace Go.Qw
open Go.Proofs
variable {R:Ac} {h:Heap}
theorem FX(a:Int)(c:Ca 131 #[a,(xJ xP 0),(xJ xP 15)] mg h λd b=>R (xN (!d)) b):Me 205 #[a] h R:=tie func205 .n c
theorem iU(b:Sl)(a:LJ)(f:gr (σ:=Int) (λc g d=>Br (c<(b.len:Int)) (sG b c λj=>gF d (j.add (c.toNat*1)) λx3=>tK C a.1 (a.2.1.toList++[(xJ xP x3)]++a.2.2.toList) mg d λi e=>Br i (R c e) (g (qd xP (c+1)) e)) (R (xJ xP (-1:Int)) d)) (0:Int) h):Me 206 #[b,(.func (.func a.1) a.2.1 a.2.2)] h R:=tie func206 (bU.tn (.two (bU.tn (.inn (.loop [(8,aI)] [(4,6),(8,19)] .n))) .n)) f
theorem FY(b:Sl)(a:Addr)(c:pd h a λe=>Ca 220 #[b,e] mg h λd f=>R d f):Me 219 #[b,a] h R:=tie func219 .n c
theorem lH(b:Sl)(a:LJ)(f:gr (σ:=Int) (λc g d=>Br (c<(b.len:Int)) (sG b c λj=>∃x3:Int×Sl,bp d (j.add (c.toNat*2)) 0 x3/\tK C a.1 (a.2.1.toList++[(xO #[x3.1,x3.2])]++a.2.2.toList) mg d λi e=>Br i (R c e) (g (qd xP (c+1)) e)) (R (xJ xP (-1:Int)) d)) (0:Int) h):Me 221 #[b,(.func (.func a.1) a.2.1 a.2.2)] h R:=tie func221 (bU.tn (.two (bU.tn (.inn (.loop [(8,aI)] [(4,6),(8,19)] .n))) .n)) f
theorem AK(a:Sl)(d:gr (σ:=Int) (λb e c=>Br (b<(a.len:Int)) (sG a b λf=>gF c (f.add (b.toNat*1)) λx3=>Br (x3 !=0) (R x3 c) (e (qd xP (b+1)) c)) (R (xJ xP 0) c)) (0:Int) h):Me 243 #[a] h R:=tie func243 (bU.tn (bU.tn (.two (bU.tn (.inn (.loop [(8,aI)] [(2,3),(5,6),(8,17)] .n))) .n))) d
theorem nI(b:Sl)(a:LJ)(f:gr (σ:=Int) (λc g d=>Br (c<(b.len:Int)) (sG b c λj=>pd d (j.add (c.toNat*1)) λx3=>tK C a.1 (a.2.1.toList++[(xK x3.ptr x3.len x3.cap)]++a.2.2.toList) mg d λi e=>Br i (R c e) (g (qd xP (c+1)) e)) (R (xJ xP (-1:Int)) d)) (0:Int) h):Me 279 #[b,(.func (.func a.1) a.2.1 a.2.2)] h R:=tie func279 (bU.tn (.two (bU.tn (.inn (.loop [(8,aI)] [(4,6),(8,19)] .n))) .n)) f
theorem ph(b:Sl)(a:LJ)(f:gr (σ:=Int) (λc g d=>Br (c<(b.len:Int)) (sG b c λj=>LdK .u8 d (j.add (c.toNat*1)) λx3=>tK C a.1 (a.2.1.toList++[(xJ xQ x3)]++a.2.2.toList) mg d λi e=>Br i (R c e) (g (qd xP (c+1)) e)) (R (xJ xP (-1:Int)) d)) (0:Int) h):Me 348 #[b,(.func (.func a.1) a.2.1 a.2.2)] h R:=tie func348 (bU.tn (.two (bU.tn (.inn (.loop [(8,aI)] [(4,6),(8,19)] .n))) .n)) f
end Go.Qw
