/- Part of the proofs that the laws of this seat answer true whatever the input reads, and leave it as it was; no condition. -/
import Derived.Test.YtdhamoojccmbdaaGreatDoorKF
import Derived.Test.YtdhamoojccmbdaaGreatDoorFinA
import Derived.Test.YtdhamoojccmbdaaGreatDoorFJ
import Derived.Test.YtdhamoojccmbdaaGreatDoorFB
import Derived.Test.YtdhamoojccmbdaaGreatDoorTie
import Derived.Test.YtdhamoojccmbdaaGreatDoorCards
import Derived.SevenTiedAt
set_option linter.unusedVariables false
set_option linter.unusedSimpArgs false
open Go.Proofs.Tryz renaming prog -> xl
open Go.Value renaming slice -> vY
open Option renaming some -> zL
open List renaming all_eq_true -> qM
set_option maxRecDepth 100000
namespace Go.Proofs.YtdhamoojccmbdaaGreatDoor
open Go Go.Vc Go.Proofs Go.ChangeShapes Go.WideShapes Go.ChangeAt Go.RowKit Go.Proofs.YtdhamoojccmbdaaGreatDoor
theorem NP(os:Os)(b:os.Started)(H:Type)(enc:TypeId×Value->H):
  ReturnsInHanded {} Tryz.checked os 5 .any (fun w args=>(Rows.storeMapSpec.pre enc xl Tryz.f5 [] false w args/\laidMetH xl Tryz.dG w)/\sizedMet enc xl Tryz.f5 (OpenSpec.ofChange Rows.storeMapSpec) false w args) (Rows.storeMapSpec.post enc xl Tryz.f5 false true false false):=by
 refine returnsInHanded_of_change_and (C:=Tryz.checked) (X:=fun w _=>laidMetH xl Tryz.dG w) (fun _ _ _ F h=>h.of_heap F) Tryz.own b (by kernel_rfl) Tryz.func5
  (ChangeSpec.witness_shaped (enc:=enc) (C:=Tryz.checked) (os:=os) (X:=fun w _=>laidMetH xl Tryz.dG w) false (World.laidAll xl os Tryz.dG) #[vY none 0 0,vY none 0 0] 8 (World.laidAll_os _ _ _) (World.shaped_of_ZipB (by kernel_rfl) (by kernel_rfl)) (by kernel_rfl) (by kernel_rfl) (by kernel_rfl)
   (by rw[MakeChecks.laidMetH_plain _ _ _ (by kernel_rfl)];exact laidMet_laidAll _ (by kernel_rfl) (by kernel_rfl))) ?_
 intro W base args ds I d c n _ _ _ _;have a:∀(j:Nat) t v,Tryz.f5.params[j]?=some t->args[j]?=some v->Value.okWide xl W .any base t v:=c;have l:=n;obtain⟨p,q,g,y,rfl,A,z⟩:=n;have o:DataW.TrodAll enc xl W 0 (fun _=>true) true Tryz.f5.params.toList args.toList ds p:=g;rw[Tryz.params5]at o a;obtain⟨v0,u,L,N,J,M,rfl,rfl,rfl,D,s⟩:=trodAll_two o;obtain⟨rfl,rfl⟩:=trodVars_none y;obtain⟨B,r,rfl,k⟩:=Tp Tryz.u22 Tryz.u3 Tryz.c3 (Fe Tryz.u22 (a 0 22 v0 rfl rfl)) D;obtain⟨G,l1,rfl,f⟩:=Tp Tryz.u22 Tryz.u3 Tryz.c3 (Fe Tryz.u22 (a 1 22 u rfl rfl)) s;refine(Js B r G l1 W.heap k f W rfl).mono ?_;rintro e K ⟨v,E,i,rfl,x⟩;refine⟨_,E,adB (rt:=4) rfl l rfl Tryz.laidOut (adA i x) ?_ (by kernel_rfl) Tryz.u4⟩;rw[Tryz.params5];intro t m;simp at m;rcases m with rfl|rfl<;>exact⟨by kernel_rfl,of_decide_eq_true (by kernel_rfl)⟩
theorem Py:Rows.StoreMapSaid:=
 OpenClaim.holds_of_wide 5 Tryz.f5 rfl rfl rfl rfl rfl rfl rfl ⟨rfl,rfl,rfl,rfl,rfl⟩ rfl rfl rfl rfl rfl (by kernel_rfl) Tryz.func5 NO
  (of_decide_eq_true (by kernel_rfl)) (by unfold Func.isWrapper;first|(rw[if_pos (by decide+kernel)];kernel_rfl)|(rw[if_neg (by decide+kernel)];exact⟨rfl,rfl⟩))
  (fun os a H enc _=>NP os a H enc)
theorem storeMap_card:Rows.StoreMapCardSaid:=
 Claim7.holds_tied_plain_at .later [] [.data,.pinned] true (true, "167c4199d85c21f7291b210317a8ee151c131e19c285689909ded0e813ce410f") false
  Py (fun _ h=>by cases h) (by kernel_rfl) (fun _ h=>by cases h) storeMap_row_tie rfl ⟨rfl,rfl⟩ (by kernel_rfl) rfl
  (fun f g d b=>by
   obtain rfl:f=5:=zL.inj ((show Tryz.prog.funcNamed "wellspring/wellspringlaw29.StoreMap" =some 5 by kernel_rfl).symm.trans d)|>.symm;obtain rfl:g=Tryz.f5:=(zL.inj (Tryz.func5.symm.trans b)).symm;exact⟨by kernel_rfl,fun j t c=>by
    rw[Tryz.params5]at c;have e:t∈[22,22]:=by simpa using Array.mem_of_getElem? c
    have a:([22,22].all fun u=>!Tryz.prog.wantsStandIn u)=true:=by kernel_rfl
    exact(show Tryz.prog.wantsStandIn t=false by simpa using qM.1 a t e)⟩)
  Xa
end Go.Proofs.YtdhamoojccmbdaaGreatDoor
