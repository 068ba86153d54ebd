/- Part of the proofs that the laws of this seat answer true whatever the input reads, and leave it as it was; no condition. -/
import Derived.Test.YtcamechmadjclaaGreatDoorKB
import Derived.Test.YtcamechmadjclaaGreatDoorFinA
import Derived.Test.YtcamechmadjclaaGreatDoorFJ
import Derived.Test.YtcamechmadjclaaGreatDoorFB
import Derived.Test.YtcamechmadjclaaGreatDoorTie
import Derived.Test.YtcamechmadjclaaGreatDoorCards
import Derived.SevenTiedAt
set_option linter.unusedVariables false
set_option linter.unusedSimpArgs false
open Go.Proofs.Tryz renaming prog -> wS
open Go.Value renaming agg -> wN, int -> wI, slice -> wJ
open Go.IntKind renaming i64 -> wO
open Option renaming some -> zQ
open List renaming all_eq_true -> qH
set_option maxRecDepth 100000
namespace Go.Proofs.YtcamechmadjclaaGreatDoor
open Go Go.Vc Go.Proofs Go.ChangeShapes Go.WideShapes Go.ChangeAt Go.RowKit Go.Proofs.YtcamechmadjclaaGreatDoor
theorem mV(os:Os)(b:os.Started)(H:Type)(enc:TypeId×Value->H):
  ReturnsInHanded {} Tryz.checked os 3 .any (fun w args=>(Rows.archiveNewSpec.pre enc wS Tryz.f3 [] false w args/\laidMetH wS Tryz.rn w)/\sizedMet enc wS Tryz.f3 (OpenSpec.ofChange Rows.archiveNewSpec) false w args) (Rows.archiveNewSpec.post enc wS Tryz.f3 false true false false):=by
 refine returnsInHanded_of_change_and (C:=Tryz.checked) (X:=fun w _=>laidMetH wS Tryz.rn w) (fun _ _ _ x h=>h.of_heap x) Tryz.own b (by kernel_rfl) Tryz.func3
  (ChangeSpec.witness_shaped (enc:=enc) (C:=Tryz.checked) (os:=os) (X:=fun w _=>laidMetH wS Tryz.rn w) false (World.laidAll wS os Tryz.rn) #[wN #[wI wO 0,wI wO 0,wI wO 0],wI wO 0,wJ none 0 0,wJ none 0 0] 8 (World.laidAll_os _ _ _) (World.shaped_of_ZipB (by kernel_rfl) (by kernel_rfl)) (by kernel_rfl) (by kernel_rfl) (by kernel_rfl)
   (by rw[MakeChecks.laidMetH_plain _ _ _ (by kernel_rfl)];exact laidMet_laidAll _ (by kernel_rfl) (by kernel_rfl))) ?_
 intro W base args F T d c n _ _ _ _;have a:∀(j:Nat) t v,Tryz.f3.params[j]?=some t->args[j]?=some v->Value.okWide wS W .any base t v:=c;have i:=n;obtain⟨p,q,k,s,rfl,L,z⟩:=n;have m:DataW.TrodAll enc wS W 0 (fun _=>true) true Tryz.f3.params.toList args.toList F p:=k;rw[Tryz.params3]at m a;obtain⟨v0,M,K,v3,Q,S,U,Y,p0,V,Z,R,rfl,rfl,rfl,I,A,N,B⟩:=trodAll_four m;obtain⟨rfl,rfl⟩:=trodVars_none s;obtain⟨G,O,z0,rfl⟩:=uP (t:=23) (by kernel_rfl) (a 0 23 v0 rfl rfl) I;obtain⟨E,rfl,rfl,rfl,_⟩:=open_int Tryz.u3 (a 1 3 M rfl rfl) A;obtain⟨D,P,rfl,l⟩:=rZ Tryz.wY Tryz.u3 Tryz.c3 (lq Tryz.wY (a 2 24 K rfl rfl)) N;obtain⟨J,u,rfl,g⟩:=rZ Tryz.wY Tryz.u3 Tryz.c3 (lq Tryz.wY (a 3 24 v3 rfl rfl)) B;refine(lP (G,O,z0) E D P J u W.heap l g W rfl).mono ?_;rintro e W' ⟨v,r,f,rfl,y⟩;refine⟨_,r,vH (rt:=4) rfl i rfl Tryz.laidOut (vG f y) ?_ (by kernel_rfl) Tryz.u4⟩;rw[Tryz.params3];intro t o;simp at o;rcases o with rfl|rfl|rfl|rfl<;>exact⟨by kernel_rfl,of_decide_eq_true (by kernel_rfl)⟩
theorem nK:Rows.ArchiveNewSaid:=
 OpenClaim.holds_of_wide 3 Tryz.f3 rfl rfl rfl rfl rfl rfl rfl ⟨rfl,rfl,rfl,rfl,rfl⟩ rfl rfl rfl rfl rfl (by kernel_rfl) Tryz.func3 mU
  (of_decide_eq_true (by kernel_rfl)) (by unfold Func.isWrapper;first|(rw[if_pos (by decide+kernel)];kernel_rfl)|(rw[if_neg (by decide+kernel)];exact⟨rfl,rfl⟩))
  (fun os a H enc _=>mV os a H enc)
theorem archiveNew_card:Rows.ArchiveNewCardSaid:=
 Claim7.holds_tied_plain_at .later [] [.data,.pinned] true (true, "e39a84ac615c931872ab31d6510fe0cbd1c3c750144cadb1d6daa80c344935bc") false
  nK (fun _ h=>by cases h) (by kernel_rfl) (fun _ h=>by cases h) archiveNew_row_tie rfl ⟨rfl,rfl⟩ (by kernel_rfl) rfl
  (fun f d e b=>by
   obtain rfl:f=3:=zQ.inj ((show Tryz.prog.funcNamed "wellspring/wellspringlaw33.ArchiveNew" =some 3 by kernel_rfl).symm.trans e)|>.symm;obtain rfl:d=Tryz.f3:=(zQ.inj (Tryz.func3.symm.trans b)).symm;exact⟨by kernel_rfl,fun j t c=>by
    rw[Tryz.params3]at c;have g:t∈[23,3,24]:=by simpa using Array.mem_of_getElem? c
    have a:([23,3,24].all fun u=>!Tryz.prog.wantsStandIn u)=true:=by kernel_rfl
    exact(show Tryz.prog.wantsStandIn t=false by simpa using qH.1 a t g)⟩)
  ri
end Go.Proofs.YtcamechmadjclaaGreatDoor
