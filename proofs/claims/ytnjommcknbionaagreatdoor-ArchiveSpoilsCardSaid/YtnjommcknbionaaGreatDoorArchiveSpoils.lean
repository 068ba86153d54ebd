/- Part of the proofs that the laws of this seat answer true whatever the input reads, and leave it as it was; no condition. -/
import Derived.Test.YtnjommcknbionaaGreatDoorKD
import Derived.Test.YtnjommcknbionaaGreatDoorFJ
import Derived.Test.YtnjommcknbionaaGreatDoorFB
import Derived.Test.YtnjommcknbionaaGreatDoorTie
import Derived.SevenTiedAt
set_option linter.unusedVariables false
set_option linter.unusedSimpArgs false
open Go.Proofs.Tryz renaming prog -> vV
open Go.Value renaming int -> vL, slice -> vM
open Go.IntKind renaming i64 -> vR
open Option renaming some -> wL
set_option maxRecDepth 100000
namespace Go.Proofs.YtnjommcknbionaaGreatDoor
open Go Go.Vc Go.Proofs Go.ChangeShapes Go.WideShapes Go.ChangeAt Go.RowKit Go.Qw
theorem ul(os:Os)(b:os.Started)(H:Type)(enc:TypeId×Value->H):
  ReturnsInHanded {} Tryz.checked os 3 .any (fun w args=>(Rows.archiveSpoilsSpec.pre enc vV Tryz.f3 [] false w args/\laidMetH vV Tryz.eE w)/\sizedMet enc vV Tryz.f3 (OpenSpec.ofChange Rows.archiveSpoilsSpec) false w args) (Rows.archiveSpoilsSpec.post enc vV Tryz.f3 false true false false):=by
 refine returnsInHanded_of_change_and (C:=Tryz.checked) (X:=fun w _=>laidMetH vV Tryz.eE w) (fun _ _ _ B h=>h.of_heap B) Tryz.own b (by kernel_rfl) Tryz.func3
  (ChangeSpec.witness_shaped (enc:=enc) (C:=Tryz.checked) (os:=os) (X:=fun w _=>laidMetH vV Tryz.eE w) false (World.laidAll vV os Tryz.eE) #[vM none 0 0,vL vR 0,vL vR 0,vM none 0 0] 8 (World.laidAll_os _ _ _) (World.shaped_of_ZipB (by kernel_rfl) (by kernel_rfl)) (by kernel_rfl) (by kernel_rfl) (by kernel_rfl)
   (by rw[MakeChecks.laidMetH_plain _ _ _ (by kernel_rfl)];exact laidMet_laidAll _ (by kernel_rfl) (by kernel_rfl))) ?_
 intro W base args ds U d c n _ _ _ _;have a:∀(j:Nat) t v,Tryz.f3.params[j]?=some t->args[j]?=some v->Value.okWide vV W .any base t v:=c;have g:=n;obtain⟨p,q,i,G,rfl,D,E⟩:=n;have o:DataW.TrodAll enc vV W 0 (fun _=>true) true Tryz.f3.params.toList args.toList ds p:=i;rw[Tryz.params3]at o a;obtain⟨v0,y,K,v3,L,O,N,T,S,R,Q,M,rfl,rfl,rfl,x,I,z,h3⟩:=trodAll_four o;obtain⟨rfl,rfl⟩:=trodVars_none G;obtain⟨u,F,rfl,k⟩:=Jc Tryz.TK Tryz.u3 Tryz.c3 (uu Tryz.TK (a 0 22 v0 rfl rfl)) x;obtain⟨n1,rfl,rfl,rfl,_⟩:=open_int Tryz.u3 (a 1 3 y rfl rfl) I;obtain⟨n2,rfl,rfl,rfl,_⟩:=open_int Tryz.u3 (a 2 3 K rfl rfl) z;obtain⟨s,J,rfl,f⟩:=Jc Tryz.TK Tryz.u3 Tryz.c3 (uu Tryz.TK (a 3 22 v3 rfl rfl)) h3;refine(rN u F n1 n2 s J W.heap k f W rfl).mono ?_;rintro e P ⟨v,r,l,rfl,A⟩;refine⟨_,r,RB (rt:=4) rfl g rfl Tryz.laidOut (RA l A) ?_ (by kernel_rfl) Tryz.u4⟩;rw[Tryz.params3];intro t m;simp at m;rcases m with rfl|rfl|rfl|rfl<;>exact⟨by kernel_rfl,of_decide_eq_true (by kernel_rfl)⟩
theorem uZ:Rows.ArchiveSpoilsSaid:=
 OpenClaim.holds_of_wide 3 Tryz.f3 rfl rfl rfl rfl rfl rfl rfl ⟨rfl,rfl,rfl,rfl,rfl⟩ rfl rfl rfl rfl rfl (by kernel_rfl) Tryz.func3 uk
  (of_decide_eq_true (by kernel_rfl)) (by unfold Func.isWrapper;first|(rw[if_pos (by decide+kernel)];kernel_rfl)|(rw[if_neg (by decide+kernel)];exact⟨rfl,rfl⟩))
  (fun os a H enc _=>ul os a H enc)
theorem archiveSpoils_card:Rows.ArchiveSpoilsCardSaid:=
 Claim7.holds_tied_plain_at .later [] [.data,.pinned] true (true, "119b608e5d45fadab43dfb55420932615acfdf322763b304dfd06d02ee1102f8") false
  uZ (fun _ h=>by cases h) (by kernel_rfl) (fun _ h=>by cases h) archiveSpoils_row_tie rfl ⟨rfl,rfl⟩ (by kernel_rfl) rfl
  (fun f d g b=>by
   obtain rfl:f=3:=wL.inj ((show Tryz.prog.funcNamed "wellspring/wellspringlaw33.ArchiveSpoils" =some 3 by kernel_rfl).symm.trans g)|>.symm;obtain rfl:d=Tryz.f3:=(wL.inj (Tryz.func3.symm.trans b)).symm;exact⟨by kernel_rfl,fun j t c=>by
    rw[Tryz.params3]at c;have e:t∈[22,3,3,22]:=by simpa using Array.mem_of_getElem? c
    have a:([22,3,3,22].all fun u=>!Tryz.prog.wantsStandIn u)=true:=by kernel_rfl
    exact(show Tryz.prog.wantsStandIn t=false by simpa using List.all_eq_true.1 a t e)⟩)
  CX
end Go.Proofs.YtnjommcknbionaaGreatDoor
