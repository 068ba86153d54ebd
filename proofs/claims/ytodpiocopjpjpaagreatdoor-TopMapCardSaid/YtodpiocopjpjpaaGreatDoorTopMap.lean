/- Part of the proofs that the laws of this seat answer true whatever the input reads, and leave it as it was; no condition. -/
import Derived.Test.YtodpiocopjpjpaaGreatDoorKG
import Derived.Test.YtodpiocopjpjpaaGreatDoorFJ
import Derived.Test.YtodpiocopjpjpaaGreatDoorFB
import Derived.Test.YtodpiocopjpjpaaGreatDoorTie
set_option linter.unusedVariables false
set_option linter.unusedSimpArgs false
open Go.Proofs.Tryz renaming prog -> kg
open Go.Value renaming int -> xU, slice -> xV
open Go.IntKind renaming i64 -> ka
open Option renaming some -> wj
set_option maxRecDepth 100000
namespace Go.Proofs.YtodpiocopjpjpaaGreatDoor
open Go Go.Qw Go.Proofs Go.ChangeShapes Go.WideShapes Go.ChangeAt Go.RowKit
theorem NQ(os:Os)(b:os.Started)(H:Type)(enc:TypeId×Value->H):
  ReturnsInHanded {} Tryz.checked os 3 .any (λw args=>(Rows.topMapSpec.pre enc kg Tryz.f3 [] false w args/\laidMetH kg Tryz.fJ w)/\sizedMet enc kg Tryz.f3 (OpenSpec.ofChange Rows.topMapSpec) false w args) (Rows.topMapSpec.post enc kg Tryz.f3 false true false false):=by
 refine returnsInHanded_of_change_and (C:=Tryz.checked) (X:=λw _=>laidMetH kg Tryz.fJ w) (λ_ _ _ D h=>h.of_heap D) Tryz.own b j6 Tryz.func3
  (ChangeSpec.witness_shaped (enc:=enc) (C:=Tryz.checked) (os:=os) (X:=λw _=>laidMetH kg Tryz.fJ w) false (World.laidAll kg os Tryz.fJ) #[xV none 0 0,xV none 0 0,xU ka 0] 8 (World.laidAll_os _ _ _) (World.shaped_of_ZipB j6 j6) j6 j6 j6
   (by rw[MakeChecks.laidMetH_plain _ _ _ j6];exact laidMet_laidAll _ j6 j6)) ?_
 intro W base args ds M d c n _ _ _ _;have a:∀(j:Nat) t v,Tryz.f3.params[j]?=some t->args[j]?=some v->Value.okWide kg W .any base t v:=c;have k:=n;obtain⟨p,q,f,E,rfl,I,s⟩:=n;have m:DataW.TrodAll enc kg W 0 (λ_=>true) true Tryz.f3.params.toList args.toList ds p:=f;rw[Tryz.params3]at m a;obtain⟨v0,z,y,L,P,J,K,O,Q,rfl,rfl,rfl,h0,B,u⟩:=trodAll_three m;obtain⟨rfl,rfl⟩:=trodVars_none E;obtain⟨x,r,rfl,i⟩:=Pz Tryz.u22 Tryz.u3 Tryz.c3 (DR Tryz.u22 (a 0 22 v0 rfl rfl)) h0;obtain⟨A,l1,rfl,g⟩:=Pz Tryz.u22 Tryz.u3 Tryz.c3 (DR Tryz.u22 (a 1 22 z rfl rfl)) B;obtain⟨n2,rfl,rfl,rfl,_⟩:=open_int Tryz.u3 (a 2 3 y rfl rfl) u;refine(KC x r A l1 n2 W.heap i g W i5).mono ?_;rintro e N ⟨v,F,l,rfl,G⟩;refine⟨_,F,acf (rt:=4) i5 k i5 Tryz.laidOut (ace l G) ?_ j6 Tryz.u4⟩;rw[Tryz.params3];intro t o;simp at o;rcases o with rfl|rfl|rfl<;>exact⟨j6,i0 j6⟩
theorem RD:Rows.TopMapSaid:=
 OpenClaim.holds_of_wide 3 Tryz.f3 i5 i5 i5 i5 i5 i5 i5 ⟨i5,i5,i5,i5,i5⟩ i5 i5 i5 i5 i5 j6 Tryz.func3 NP
  (i0 j6) (by unfold Func.isWrapper;first|(rw[g0 j5];kernel_rfl)|(rw[g9 j5];exact⟨i5,i5⟩))
  (λos a H enc _=>NQ os a H enc)
theorem topMap_card:Rows.TopMapCardSaid:=
 Claim7.holds_tied_plain_at .later [] [.data,.pinned] true (true, "db5ecea2d589d0197a463f8be37edb9260783d43ecb5c71148bcd7b1add9a1ea") false
  RD (λ_ h=>j8) j6 (λ_ h=>j8) topMap_row_tie i5 ⟨i5,i5⟩ j6 i5
  (λf d g b=>by
   obtain rfl:f=3:=wj.inj ((show Tryz.prog.funcNamed "wellspring/wellspringtop.TopMap" =some 3 by kernel_rfl).symm.trans g)|>.symm;obtain rfl:d=Tryz.f3:=(wj.inj (Tryz.func3.symm.trans b)).symm;exact⟨j6,λj t c=>by
    rw[Tryz.params3]at c;have e:t∈[22,22,3]:=by simpa using Array.mem_of_getElem? c
    have a:([22,22,3].all λu=>!Tryz.prog.wantsStandIn u)=true:=j6
    exact(show Tryz.prog.wantsStandIn t=false by simpa using List.all_eq_true.1 a t e)⟩)
  abc
end Go.Proofs.YtodpiocopjpjpaaGreatDoor
