/- Part of the proofs that the laws of this seat answer true whatever the input reads, and leave it as it was; no condition. -/
import Derived.Test.YtadfimdanpoafaaGreatDoorKF
import Derived.Test.YtadfimdanpoafaaGreatDoorFJ
import Derived.Test.YtadfimdanpoafaaGreatDoorFB
import Derived.Test.YtadfimdanpoafaaGreatDoorTie
import Derived.SevenTiedAt
set_option linter.unusedVariables false
set_option linter.unusedSimpArgs false
open Go.Proofs.Tryz renaming prog -> xx
open Go.Value renaming int -> xl, slice -> xn
open Go.IntKind renaming i64 -> xt
open Option renaming some -> zM
set_option maxRecDepth 100000
namespace Go.Proofs.YtadfimdanpoafaaGreatDoor
open Go Go.Vc Go.Proofs Go.ChangeShapes Go.WideShapes Go.ChangeAt Go.RowKit Go.Qw
theorem ER(os:Os)(b:os.Started)(H:Type)(enc:TypeId×Value->H):
  ReturnsInHanded {} Tryz.checked os 3 .any (fun w args=>(Rows.fleetRetiresSpec.pre enc xx Tryz.f3 [] false w args/\laidMetH xx Tryz.dq w)/\sizedMet enc xx Tryz.f3 (OpenSpec.ofChange Rows.fleetRetiresSpec) false w args) (Rows.fleetRetiresSpec.post enc xx Tryz.f3 false true false false):=by
 refine returnsInHanded_of_change_and (C:=Tryz.checked) (X:=fun w _=>laidMetH xx Tryz.dq w) (fun _ _ _ y h=>h.of_heap y) Tryz.own b (by kernel_rfl) Tryz.func3
  (ChangeSpec.witness_shaped (enc:=enc) (C:=Tryz.checked) (os:=os) (X:=fun w _=>laidMetH xx Tryz.dq w) false (World.laidAll xx os Tryz.dq) #[xn none 0 0,xn none 0 0,xl xt 0] 8 (World.laidAll_os _ _ _) (World.shaped_of_ZipB (by kernel_rfl) (by kernel_rfl)) (by kernel_rfl) (by kernel_rfl) (by kernel_rfl)
   (by rw[MakeChecks.laidMetH_plain _ _ _ (by kernel_rfl)];exact laidMet_laidAll _ (by kernel_rfl) (by kernel_rfl))) ?_
 intro W base args ds K d c n _ _ _ _;have a:∀(j:Nat) t v,Tryz.f3.params[j]?=some t->args[j]?=some v->Value.okWide xx W .any base t v:=c;have i:=n;obtain⟨p,q,g,s,rfl,G,x⟩:=n;have o:DataW.TrodAll enc xx W 0 (fun _=>true) true Tryz.f3.params.toList args.toList ds p:=g;rw[Tryz.params3]at o a;obtain⟨v0,B,E,L,P,J,O,Q,N,rfl,rfl,rfl,h0,I,r⟩:=trodAll_three o;obtain⟨rfl,rfl⟩:=trodVars_none s;obtain⟨z,D,rfl,k⟩:=QG Tryz.u22 Tryz.u3 Tryz.c3 (DZ Tryz.u22 (a 0 22 v0 rfl rfl)) h0;obtain⟨u,l1,rfl,l⟩:=QG Tryz.u22 Tryz.u3 Tryz.c3 (DZ Tryz.u22 (a 1 22 B rfl rfl)) I;obtain⟨n2,rfl,rfl,rfl,_⟩:=open_int Tryz.u3 (a 2 3 E rfl rfl) r;refine(CG z D u l1 n2 W.heap k l W rfl).mono ?_;rintro e M ⟨v,F,f,rfl,A⟩;refine⟨_,F,aaE (rt:=4) rfl i rfl Tryz.laidOut (aaD f A) ?_ (by kernel_rfl) Tryz.u4⟩;rw[Tryz.params3];intro t m;simp at m;rcases m with rfl|rfl|rfl<;>exact⟨by kernel_rfl,of_decide_eq_true (by kernel_rfl)⟩
theorem Hg:Rows.FleetRetiresSaid:=
 OpenClaim.holds_of_wide 3 Tryz.f3 rfl rfl rfl rfl rfl rfl rfl ⟨rfl,rfl,rfl,rfl,rfl⟩ rfl rfl rfl rfl rfl (by kernel_rfl) Tryz.func3 EQ
  (of_decide_eq_true (by kernel_rfl)) (by unfold Func.isWrapper;first|(rw[if_pos (by decide+kernel)];kernel_rfl)|(rw[if_neg (by decide+kernel)];exact⟨rfl,rfl⟩))
  (fun os a H enc _=>ER os a H enc)
theorem fleetRetires_card:Rows.FleetRetiresCardSaid:=
 Claim7.holds_tied_plain_at .later [] [.data,.pinned] true (true, "f7459cf95455588d4a4e4db8d3302b41914478459e78150496d53fea691ba781") false
  Hg (fun _ h=>by cases h) (by kernel_rfl) (fun _ h=>by cases h) fleetRetires_row_tie rfl ⟨rfl,rfl⟩ (by kernel_rfl) rfl
  (fun f g e b=>by
   obtain rfl:f=3:=zM.inj ((show Tryz.prog.funcNamed "wellspring/wellspringlaw30.FleetRetires" =some 3 by kernel_rfl).symm.trans e)|>.symm;obtain rfl:g=Tryz.f3:=(zM.inj (Tryz.func3.symm.trans b)).symm;exact⟨by kernel_rfl,fun j t c=>by
    rw[Tryz.params3]at c;have d:t∈[22,3]:=by simpa using Array.mem_of_getElem? c
    have a:([22,3].all fun u=>!Tryz.prog.wantsStandIn u)=true:=by kernel_rfl
    exact(show Tryz.prog.wantsStandIn t=false by simpa using List.all_eq_true.1 a t d)⟩)
  Mj
end Go.Proofs.YtadfimdanpoafaaGreatDoor
