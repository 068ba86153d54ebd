/- Lemmas for the proof of the law; no condition. -/
import Derived.Test.YtnjommcknbionaaGreatDoorTabA
set_option linter.unusedVariables false
open Go.Proofs.Tryz renaming prog -> vV
open Go.Value renaming int -> vL
open Go.IntKind renaming bits -> qf, i64 -> vR, u8 -> vS, wrap -> qc
open BitVec renaming ofInt -> qq
open Int renaming tmod -> zQ
open Option renaming isNone -> qS
open Go.Instr renaming storeAt -> qe
open Go.Proofs.Tryz
set_option maxRecDepth 1000000
namespace Go.Qw
noncomputable section
open Go Go.Vc Go.Proofs
variable {R:wt} {h:Heap}
def Eg(d:Int)(b:Int):Prop:=
 aS (σ:=bL) (fun a i c=>
 Br (a.2.1==0)
 (R (vL vS a.2.2) c)
 (aV (σ:=Int) (fun j e=>
 (0<=(1:Int))/\
 aV (σ:=Int) (fun k h3=>
 (0<=(1:Int))/\
 i (k,Int.fdiv a.2.1 (2^min (1:Int).toNat (qf vS)),j) h3)
 (fun f=>
 Br ((qc vS ((qq (qf vS) a.1&&&(qq (qf vS) (128:Int))).toNat:Nat)) !=0)
 (f (qc vS ((qq (qf vS) (qc vS (a.1*2^min (1:Int).toNat (qf vS)))^^^(qq (qf vS) (27:Int))).toNat:Nat)) e)
 (f (qc vS (a.1*2^min (1:Int).toNat (qf vS))) e)))
 (fun g=>
 Br ((qc vS ((qq (qf vS) a.2.1&&&(qq (qf vS) (1:Int))).toNat:Nat))==1)
 (g (qc vS ((qq (qf vS) a.2.2^^^(qq (qf vS) a.1)).toNat:Nat)) c)
 (g a.2.2 c)))) (d,b,(0:Int)) h
theorem Jt(b:Int)(a:Int)(c:@Eg R h b a):ab vV 313 #[(vL vS b),(vL vS a)] h R:=aq af func313 (an.tn (.scope 0 [(0,(.sc (.int .u8))),(1,(.sc (.int .u8))),(5,(.sc (.int .u8)))] [(0,2),(4,26)] [.n] [(an.tn (.two (.join [(5,(.sc (.int .u8)))] [(5,6),(10,16)] .n) (an.tn (an.tn (.two (.join [(0,(.sc (.int .u8)))] [(0,1),(21,24)] .n) .n)))))] [])) c
def xS(b:Nat×Nat)(d:Int):Prop:=
 ((4:Int)≠0)/\
 ((4:Int)≠0)/\
 aS (σ:=((Nat×Nat))×Int) (fun a f e=>
 Br (decide (a.2<(zQ (qc vR ((zQ d 4)+4)) 4)))
 (∃c:Nat×Nat,(fM vV .mul 250 (.tmp 11) (.const (.complex .f64 0 4607182418800017408)) (.complex .f64 a.1.1 a.1.2) (.complex .f64 0 4607182418800017408) (.complex .f64 c.1 c.2))/\
 f ((c.1,c.2),qc vR (a.2+1)) e)
 (R (.complex .f64 a.1.1 a.1.2) e)) ((b.1,b.2),(0:Int)) h
theorem FE(a:Nat×Nat)(b:Int)(c:@xS R h a b):ab vV 314 #[(.complex .f64 a.1 a.2),b] h R:=aq af func314 (an.tn (.two (an.tn (.inn (.loop [(0,(.sc (.cpx .f64))),(9,be)] [(0,1),(9,14)] .n))) .n)) c
def sB(a:aK):Prop:=
 Br (qS a)
 (ac vV 197 #[] kb h fun c b=>
 R c b)
 (R a h)
theorem CE(a:aK)(b:@sB R h a):ab vV 336 #[a] h R:=aq af func336 .n b
def sC(b:Int):Prop:=
 aS (σ:=Int) (fun a d c=>
 Br ((qc vR (a*a))<b)
 (d (qc vR (a+1)) c)
 (R a c)) (0:Int) h
theorem CF(a:Int)(b:@sC R h a):ab vV 337 #[a] h R:=aq af func337 (an.tn (an.tn (.two (.inn (.loop [(3,be)] [(3,11)] .n)) .n))) b
def gu(b:Sl)(f:Int)(d:Int)(g:Int)(a:dl):Prop:=
 aS (σ:=Int×Int) (fun c i e=>
 Br (c.1 !=c.2)
 (Br (c.1>c.2)
 (ac vV 357 #[b,(qc vR (d-c.1)),d,c.2,(.func (.func a.1) a.2.1 a.2.2)] iG e fun _ j=>
 i (qc vR (c.1-c.2),c.2) j)
 (ac vV 357 #[b,(qc vR (d-c.1)),(qc vR ((qc vR (d+c.2))-c.1)),c.1,(.func (.func a.1) a.2.1 a.2.2)] iG e fun _ h3=>
 i (c.1,qc vR (c.2-c.1)) h3))
 (ac vV 357 #[b,(qc vR (d-c.1)),d,c.1,(.func (.func a.1) a.2.1 a.2.2)] iG e fun _ k=>
 R (.tuple #[]) k)) (qc vR (d-f),qc vR (g-d)) h
theorem jV(b:Sl)(e:Int)(c:Int)(d:Int)(a:dl)(f:@gu R h b e c d a):ab vV 338 #[b,e,c,d,(.func (.func a.1) a.2.1 a.2.2)] h R:=aq af func338 (an.tn (an.tn (.two (.inn (.loop [(10,be),(11,be)] [(10,12),(18,50)] .n)) .n))) f
def Eh(a:aK):Prop:=
 Br (qS a)
 (ac vV 197 #[] kb h fun c b=>
 R c b)
 (R a h)
theorem Ju(a:aK)(b:@Eh R h a):ab vV 348 #[a] h R:=aq af func348 .n b
def fO(a:Sl)(d:Int)(c:Int)(g:Int)(f:dl):Prop:=
 aS (σ:=Int) (fun b n e=>
 Br (b<g)
 (∃m,(a.ptr=some m/\0<=(qc vR (c+b))/\(qc vR (c+b))<(a.len:Int))/\
 ∃x3:cH,ah e (m.add ((qc vR (c+b)).toNat*8)) 0 x3/\
 ∃a4,(a.ptr=some a4/\0<=(qc vR (d+b))/\(qc vR (d+b))<(a.len:Int))/\
 ∃k:cH,ah e (a4.add ((qc vR (d+b)).toNat*8)) 0 k/\
 ∃l,(a.ptr=some l/\0<=(qc vR (d+b))/\(qc vR (d+b))<(a.len:Int))/\
 ae vV (qe 49 (l.add ((qc vR (d+b)).toNat*8)) x3) e fun _ i=>
 (ar.ok [] i)/\
 ∃j,(a.ptr=some j/\0<=(qc vR (c+b))/\(qc vR (c+b))<(a.len:Int))/\
 ae vV (qe 49 (j.add ((qc vR (c+b)).toNat*8)) k) i fun _ h3=>
 (ar.ok [] h3)/\
 n (qc vR (b+1)) h3)
 (R (.tuple #[]) e)) (0:Int) h
theorem jp(b:Sl)(e:Int)(c:Int)(d:Int)(a:dl)(f:@fO R h b e c d a):ab vV 357 #[b,e,c,d,(.func (.func a.1) a.2.1 a.2.2)] h R:=aq af func357 (an.tn (.inn (.loop [(10,be)] [(10,38)] .n))) f
end
end Go.Qw
