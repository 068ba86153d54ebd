/- Part of the proofs that the laws of this seat answer true whatever the input reads, and leave it as it was; no condition. -/
import Derived.Test.YtbhpnfilcomonaaGreatDoorKD
import Derived.Test.YtbhpnfilcomonaaGreatDoorFJ
import Derived.Test.YtbhpnfilcomonaaGreatDoorFB
import Derived.Test.YtbhpnfilcomonaaGreatDoorTie
import Derived.SevenTiedAt
set_option linter.unusedVariables false
set_option linter.unusedSimpArgs false
open Go.Proofs.Tryz renaming prog -> xa
open Go.Value renaming int -> vQ, slice -> vR
open Go.IntKind renaming i64 -> vW
open Option renaming some -> wG
set_option maxRecDepth 100000
namespace Go.Proofs.YtbhpnfilcomonaaGreatDoor
open Go Go.Vc Go.Proofs Go.ChangeShapes Go.WideShapes Go.ChangeAt Go.RowKit Go.Qw
theorem Cj(os:Os)(b:os.Started)(H:Type)(enc:TypeId×Value->H):
  ReturnsInHanded {} Tryz.checked os 3 .any (fun w args=>(Rows.openNewestSpec.pre enc xa Tryz.f3 [] false w args/\laidMetH xa Tryz.eV w)/\sizedMet enc xa Tryz.f3 (OpenSpec.ofChange Rows.openNewestSpec) false w args) (Rows.openNewestSpec.post enc xa Tryz.f3 false true false false):=by
 refine returnsInHanded_of_change_and (C:=Tryz.checked) (X:=fun w _=>laidMetH xa Tryz.eV w) (fun _ _ _ o h=>h.of_heap o) Tryz.own b (by kernel_rfl) Tryz.func3
  (ChangeSpec.witness_shaped (enc:=enc) (C:=Tryz.checked) (os:=os) (X:=fun w _=>laidMetH xa Tryz.eV w) false (World.laidAll xa os Tryz.eV) #[vR none 0 0,vQ vW 0,vQ vW 0,vQ vW 0] 8 (World.laidAll_os _ _ _) (World.shaped_of_ZipB (by kernel_rfl) (by kernel_rfl)) (by kernel_rfl) (by kernel_rfl) (by kernel_rfl)
   (by rw[MakeChecks.laidMetH_plain _ _ _ (by kernel_rfl)];exact laidMet_laidAll _ (by kernel_rfl) (by kernel_rfl))) ?_
 intro W base args ds J d c l _ _ _ _;have a:∀(j:Nat) t v,Tryz.f3.params[j]?=some t->args[j]?=some v->Value.okWide xa W .any base t v:=c;have g:=l;obtain⟨p,q,i,y,rfl,F,D⟩:=l;have n:DataW.TrodAll enc xa W 0 (fun _=>true) true Tryz.f3.params.toList args.toList ds p:=i;rw[Tryz.params3]at n a;obtain⟨v0,A,B,v3,S,Q,K,M,O,L,P,N,rfl,rfl,rfl,E,I,u,h3⟩:=trodAll_four n;obtain⟨rfl,rfl⟩:=trodVars_none y;obtain⟨s,r,rfl,k⟩:=TN Tryz.Yx Tryz.u3 Tryz.c3 (IE Tryz.Yx (a 0 22 v0 rfl rfl)) E;obtain⟨n1,rfl,rfl,rfl,_⟩:=open_int Tryz.u3 (a 1 3 A rfl rfl) I;obtain⟨n2,rfl,rfl,rfl,_⟩:=open_int Tryz.u3 (a 2 3 B rfl rfl) u;obtain⟨x,rfl,rfl,rfl,_⟩:=open_int Tryz.u3 (a 3 3 v3 rfl rfl) h3;refine(xK s r n1 n2 x W.heap k W rfl).mono ?_;rintro e R ⟨v,G,f,rfl,z⟩;refine⟨_,G,TM (rt:=4) rfl g rfl Tryz.laidOut (TL f z) ?_ (by kernel_rfl) Tryz.u4⟩;rw[Tryz.params3];intro t m;simp at m;rcases m with rfl|rfl|rfl|rfl<;>exact⟨by kernel_rfl,of_decide_eq_true (by kernel_rfl)⟩
theorem DZ:Rows.OpenNewestSaid:=
 OpenClaim.holds_of_wide 3 Tryz.f3 rfl rfl rfl rfl rfl rfl rfl ⟨rfl,rfl,rfl,rfl,rfl⟩ rfl rfl rfl rfl rfl (by kernel_rfl) Tryz.func3 Ci
  (of_decide_eq_true (by kernel_rfl)) (by unfold Func.isWrapper;first|(rw[if_pos (by decide+kernel)];kernel_rfl)|(rw[if_neg (by decide+kernel)];exact⟨rfl,rfl⟩))
  (fun os a H enc _=>Cj os a H enc)
theorem openNewest_card:Rows.OpenNewestCardSaid:=
 Claim7.holds_tied_plain_at .later [] [.data,.pinned] true (true, "d38abe29204dfdde11531177b87f6913b41a388a6f50d5fbcf6418ce6a83f395") false
  DZ (fun _ h=>by cases h) (by kernel_rfl) (fun _ h=>by cases h) openNewest_row_tie rfl ⟨rfl,rfl⟩ (by kernel_rfl) rfl
  (fun f e d b=>by
   obtain rfl:f=3:=wG.inj ((show Tryz.prog.funcNamed "wellspring/wellspringlaw32.OpenNewest" =some 3 by kernel_rfl).symm.trans d)|>.symm;obtain rfl:e=Tryz.f3:=(wG.inj (Tryz.func3.symm.trans b)).symm;exact⟨by kernel_rfl,fun j t c=>by
    rw[Tryz.params3]at c;have g:t∈[22,3,3,3]:=by simpa using Array.mem_of_getElem? c
    have a:([22,3,3,3].all fun u=>!Tryz.prog.wantsStandIn u)=true:=by kernel_rfl
    exact(show Tryz.prog.wantsStandIn t=false by simpa using List.all_eq_true.1 a t g)⟩)
  Jq
end Go.Proofs.YtbhpnfilcomonaaGreatDoor
