/- Lemmas for the proof of the law; no condition. -/
import Derived.Test.YtbhpnfilcomonaaGreatDoorTabA
set_option linter.unusedVariables false
open Go.Proofs.Tryz renaming prog -> xa
open Go.IntKind renaming i64 -> vW, wrap -> qc
open Go.Instr renaming storeAt -> qe
set_option maxRecDepth 1000000
namespace Go.Qw
open Go Go.Vc Go.Proofs
variable {R:ug} {h:Heap}
noncomputable def gU(b:Sl)(e:Int)(d:Int)(g:Int)(a:cq):Prop:=
 aN (σ:=Int×Int) (fun c K1 f=>
 Br (c.1 !=c.2)
 (Br (c.1>c.2)
 (ae xa 253 #[b,(qc vW (d-c.1)),d,c.2,(.func (.func a.1) a.2.1 a.2.2)] ia f fun _ i=>
 K1 (qc vW (c.1-c.2),c.2) i)
 (ae xa 253 #[b,(qc vW (d-c.1)),(qc vW ((qc vW (d+c.2))-c.1)),c.1,(.func (.func a.1) a.2.1 a.2.2)] ia f fun _ h3=>
 K1 (c.1,qc vW (c.2-c.1)) h3))
 (ae xa 253 #[b,(qc vW (d-c.1)),d,c.1,(.func (.func a.1) a.2.1 a.2.2)] ia f fun _ j=>
 R (.tuple #[]) j)) (qc vW (d-e),qc vW (g-d)) h
theorem kE(b:Sl)(d:Int)(c:Int)(e:Int)(a:cq)(f:@gU R h b d c e a):ac xa 249 #[b,d,c,e,(.func (.func a.1) a.2.1 a.2.2)] h R:=ao af Tryz.func249 (ak.tn (ak.tn (.two (.inn (.loop [(10,bc),(11,bc)] [(10,12),(18,50)] .n)) .n))) f
noncomputable def gb(a:Sl)(c:Int)(d:Int)(f:Int)(g:cq):Prop:=
 aN (σ:=Int) (fun b K1 e=>
 Br (b<f)
 (∃k,(a.ptr=some k/\0<=(qc vW (d+b))/\(qc vW (d+b))<(a.len:Int))/\
 ∃x3:dA,ai e (k.add ((qc vW (d+b)).toNat*8)) 0 x3/\
 ∃a4,(a.ptr=some a4/\0<=(qc vW (c+b))/\(qc vW (c+b))<(a.len:Int))/\
 ∃j:dA,ai e (a4.add ((qc vW (c+b)).toNat*8)) 0 j/\
 ∃l,(a.ptr=some l/\0<=(qc vW (c+b))/\(qc vW (c+b))<(a.len:Int))/\
 ab xa (qe 119 (l.add ((qc vW (c+b)).toNat*8)) x3) e fun _ i=>
 (aB.ok [] i)/\
 ∃m,(a.ptr=some m/\0<=(qc vW (d+b))/\(qc vW (d+b))<(a.len:Int))/\
 ab xa (qe 119 (m.add ((qc vW (d+b)).toNat*8)) j) i fun _ h3=>
 (aB.ok [] h3)/\
 K1 (qc vW (b+1)) h3)
 (R (.tuple #[]) e)) (0:Int) h
theorem jU(b:Sl)(c:Int)(e:Int)(d:Int)(a:cq)(f:@gb R h b c e d a):ac xa 253 #[b,c,e,d,(.func (.func a.1) a.2.1 a.2.2)] h R:=ao af Tryz.func253 (ak.tn (.inn (.loop [(10,bc)] [(10,38)] .n))) f
end Go.Qw
