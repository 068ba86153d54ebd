/- Part of the proofs that the laws of this seat answer true whatever the input reads, and leave it as it was; no condition. -/
import Derived.Test.YtplpfpidgljdhaaGreatDoorKF
import Derived.Test.YtplpfpidgljdhaaGreatDoorFJ
import Derived.Test.YtplpfpidgljdhaaGreatDoorFB
import Derived.Test.YtplpfpidgljdhaaGreatDoorTie
set_option linter.unusedVariables false
set_option linter.unusedSimpArgs false
open Go.Proofs.Tryz renaming prog -> xP
open Go.Value renaming slice -> xG
open Option renaming some -> zW
set_option maxRecDepth 100000
namespace Go.Proofs.YtplpfpidgljdhaaGreatDoor
open Go Go.Qw Go.Proofs Go.ChangeShapes Go.WideShapes Go.ChangeAt Go.RowKit
theorem JA(os:Os)(b:os.Started)(H:Type)(enc:TypeId×Value->H):
  ReturnsInHanded {} Tryz.checked os 4 .any (λw args=>(Rows.openSameSpec.pre enc xP Tryz.f4 [] false w args/\laidMetH xP Tryz.dM w)/\sizedMet enc xP Tryz.f4 (OpenSpec.ofChange Rows.openSameSpec) false w args) (Rows.openSameSpec.post enc xP Tryz.f4 false true false false):=by
 refine returnsInHanded_of_change_and (C:=Tryz.checked) (X:=λw _=>laidMetH xP Tryz.dM w) (λ_ _ _ y h=>h.of_heap y) Tryz.own b j4 Tryz.func4
  (ChangeSpec.witness_shaped (enc:=enc) (C:=Tryz.checked) (os:=os) (X:=λw _=>laidMetH xP Tryz.dM w) false (World.laidAll xP os Tryz.dM) #[xG none 0 0,xG none 0 0] 8 (World.laidAll_os _ _ _) (World.shaped_of_ZipB j4 j4) j4 j4 j4
   (by rw[MakeChecks.laidMetH_plain _ _ _ j4];exact laidMet_laidAll _ j4 j4)) ?_
 intro W base args ds N d c n _ _ _ _;have a:∀(j:Nat) t v,Tryz.f4.params[j]?=some t->args[j]?=some v->Value.okWide xP W .any base t v:=c;have i:=n;obtain⟨p,q,f,r,rfl,u,A⟩:=n;have o:DataW.TrodAll enc xP W 0 (λ_=>true) true Tryz.f4.params.toList args.toList ds p:=f;rw[Tryz.params4]at o a;obtain⟨v0,s,L,I,M,J,rfl,rfl,rfl,D,x⟩:=trodAll_two o;obtain⟨rfl,rfl⟩:=trodVars_none r;obtain⟨E,F,rfl,l⟩:=Of Tryz.u22 Tryz.u3 Tryz.c3 (CV Tryz.u22 (a 0 22 v0 rfl rfl)) D;obtain⟨z,l1,rfl,k⟩:=Of Tryz.u22 Tryz.u3 Tryz.c3 (CV Tryz.u22 (a 1 22 s rfl rfl)) x;refine(FO E F z l1 W.heap l k W i4).mono ?_;rintro e K ⟨v,G,g,rfl,B⟩;refine⟨_,G,aav (rt:=4) i4 i i4 Tryz.laidOut (aau g B) ?_ j4 Tryz.u4⟩;rw[Tryz.params4];intro t m;simp at m;rcases m with rfl|rfl<;>exact⟨j4,ii j4⟩
theorem KG:Rows.OpenSameSaid:=
 OpenClaim.holds_of_wide 4 Tryz.f4 i4 i4 i4 i4 i4 i4 i4 ⟨i4,i4,i4,i4,i4⟩ i4 i4 i4 i4 i4 j4 Tryz.func4 Jz
  (ii j4) (by unfold Func.isWrapper;first|(rw[g9 j5];kernel_rfl)|(rw[hU j5];exact⟨i4,i4⟩))
  (λos a H enc _=>JA os a H enc)
theorem openSame_card:Rows.OpenSameCardSaid:=
 Claim7.holds_tied_plain_at .later [] [.data,.pinned] true (true, "ee2e9a4934961307215b947b93da4a7f70304a1425944af01ecbd58aa5f251a8") false
  KG (λ_ h=>k9) j4 (λ_ h=>k9) openSame_row_tie i4 ⟨i4,i4⟩ j4 i4
  (λf g d b=>by
   obtain rfl:f=4:=zW.inj ((show Tryz.prog.funcNamed "wellspring/wellspringlaw32.OpenSame" =some 4 by kernel_rfl).symm.trans d)|>.symm;obtain rfl:g=Tryz.f4:=(zW.inj (Tryz.func4.symm.trans b)).symm;exact⟨j4,λj t c=>by
    rw[Tryz.params4]at c;have e:t∈[22,22]:=by simpa using Array.mem_of_getElem? c
    have a:([22,22].all λu=>!Tryz.prog.wantsStandIn u)=true:=j4
    exact(show Tryz.prog.wantsStandIn t=false by simpa using List.all_eq_true.1 a t e)⟩)
  Sf
end Go.Proofs.YtplpfpidgljdhaaGreatDoor
