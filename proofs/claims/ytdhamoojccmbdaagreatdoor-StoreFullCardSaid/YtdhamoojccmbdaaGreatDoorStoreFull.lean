/- Part of the proofs that the laws of this seat answer true whatever the input reads, and leave it as it was; no condition. -/
import Derived.Test.YtdhamoojccmbdaaGreatDoorKF
import Derived.Test.YtdhamoojccmbdaaGreatDoorFinA
import Derived.Test.YtdhamoojccmbdaaGreatDoorFJ
import Derived.Test.YtdhamoojccmbdaaGreatDoorFB
import Derived.Test.YtdhamoojccmbdaaGreatDoorTie
import Derived.Test.YtdhamoojccmbdaaGreatDoorCards
import Derived.SevenTiedAt
set_option linter.unusedVariables false
set_option linter.unusedSimpArgs false
open Go.Proofs.Tryz renaming prog -> vV
open Go.Value renaming int -> vL, slice -> vM
open Go.IntKind renaming i64 -> vR
open Option renaming some -> zJ
open List renaming all_eq_true -> qM
set_option maxRecDepth 100000
namespace Go.Proofs.YtdhamoojccmbdaaGreatDoor
open Go Go.Vc Go.Proofs Go.ChangeShapes Go.WideShapes Go.ChangeAt Go.RowKit Go.Proofs.YtdhamoojccmbdaaGreatDoor
theorem Kp(os:Os)(b:os.Started)(H:Type)(enc:TypeId×Value->H):
  ReturnsInHanded {} Tryz.checked os 4 .any (fun w args=>(Rows.storeFullSpec.pre enc vV Tryz.f4 [] false w args/\laidMetH vV Tryz.eu w)/\sizedMet enc vV Tryz.f4 (OpenSpec.ofChange Rows.storeFullSpec) false w args) (Rows.storeFullSpec.post enc vV Tryz.f4 false true false false):=by
 refine returnsInHanded_of_change_and (C:=Tryz.checked) (X:=fun w _=>laidMetH vV Tryz.eu w) (fun _ _ _ I h=>h.of_heap I) Tryz.own b (by kernel_rfl) Tryz.func4
  (ChangeSpec.witness_shaped (enc:=enc) (C:=Tryz.checked) (os:=os) (X:=fun w _=>laidMetH vV Tryz.eu w) false (World.laidAll vV os Tryz.eu) #[vM none 0 0,vM none 0 0,vL vR 0,vL vR 0] 8 (World.laidAll_os _ _ _) (World.shaped_of_ZipB (by kernel_rfl) (by kernel_rfl)) (by kernel_rfl) (by kernel_rfl) (by kernel_rfl)
   (by rw[MakeChecks.laidMetH_plain _ _ _ (by kernel_rfl)];exact laidMet_laidAll _ (by kernel_rfl) (by kernel_rfl))) ?_
 intro W base args ds M d c m _ _ _ _;have a:∀(j:Nat) t v,Tryz.f4.params[j]?=some t->args[j]?=some v->Value.okWide vV W .any base t v:=c;have k:=m;obtain⟨p,q,f,G,rfl,z,K⟩:=m;have o:DataW.TrodAll enc vV W 0 (fun _=>true) true Tryz.f4.params.toList args.toList ds p:=f;rw[Tryz.params4]at o a;obtain⟨v0,D,E,v3,L,N,Q,U,R,O,S,T,rfl,rfl,rfl,r,F,x,h3⟩:=trodAll_four o;obtain⟨rfl,rfl⟩:=trodVars_none G;obtain⟨u,B,rfl,i⟩:=Sg Tryz.u22 Tryz.u3 Tryz.c3 (Et Tryz.u22 (a 0 22 v0 rfl rfl)) r;obtain⟨y,l1,rfl,g⟩:=Sg Tryz.u22 Tryz.u3 Tryz.c3 (Et Tryz.u22 (a 1 22 D rfl rfl)) F;obtain⟨n2,rfl,rfl,rfl,_⟩:=open_int Tryz.u3 (a 2 3 E rfl rfl) x;obtain⟨J,rfl,rfl,rfl,_⟩:=open_int Tryz.u3 (a 3 3 v3 rfl rfl) h3;refine(HK u B y l1 n2 J W.heap i g W rfl).mono ?_;rintro e P ⟨v,s,l,rfl,A⟩;refine⟨_,s,acp (rt:=4) rfl k rfl Tryz.laidOut (aco l A) ?_ (by kernel_rfl) Tryz.u4⟩;rw[Tryz.params4];intro t n;simp at n;rcases n with rfl|rfl|rfl|rfl<;>exact⟨by kernel_rfl,of_decide_eq_true (by kernel_rfl)⟩
theorem MP:Rows.StoreFullSaid:=
 OpenClaim.holds_of_wide 4 Tryz.f4 rfl rfl rfl rfl rfl rfl rfl ⟨rfl,rfl,rfl,rfl,rfl⟩ rfl rfl rfl rfl rfl (by kernel_rfl) Tryz.func4 Ko
  (of_decide_eq_true (by kernel_rfl)) (by unfold Func.isWrapper;first|(rw[if_pos (by decide+kernel)];kernel_rfl)|(rw[if_neg (by decide+kernel)];exact⟨rfl,rfl⟩))
  (fun os a H enc _=>Kp os a H enc)
theorem storeFull_card:Rows.StoreFullCardSaid:=
 Claim7.holds_tied_plain_at .later [] [.data,.pinned] true (true, "167c4199d85c21f7291b210317a8ee151c131e19c285689909ded0e813ce410f") false
  MP (fun _ h=>by cases h) (by kernel_rfl) (fun _ h=>by cases h) storeFull_row_tie rfl ⟨rfl,rfl⟩ (by kernel_rfl) rfl
  (fun f g e b=>by
   obtain rfl:f=4:=zJ.inj ((show Tryz.prog.funcNamed "wellspring/wellspringlaw29.StoreFull" =some 4 by kernel_rfl).symm.trans e)|>.symm;obtain rfl:g=Tryz.f4:=(zJ.inj (Tryz.func4.symm.trans b)).symm;exact⟨by kernel_rfl,fun j t c=>by
    rw[Tryz.params4]at c;have d:t∈[22,22,3,3]:=by simpa using Array.mem_of_getElem? c
    have a:([22,22,3,3].all fun u=>!Tryz.prog.wantsStandIn u)=true:=by kernel_rfl
    exact(show Tryz.prog.wantsStandIn t=false by simpa using qM.1 a t d)⟩)
  Un
end Go.Proofs.YtdhamoojccmbdaaGreatDoor
