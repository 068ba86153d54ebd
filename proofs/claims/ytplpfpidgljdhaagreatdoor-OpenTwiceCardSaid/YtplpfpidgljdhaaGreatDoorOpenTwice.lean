/- Part of the proofs that the laws of this seat answer true whatever the input reads, and leave it as it was; no condition. -/
import Derived.Test.YtplpfpidgljdhaaGreatDoorKE
import Derived.Test.YtplpfpidgljdhaaGreatDoorFJ
import Derived.Test.YtplpfpidgljdhaaGreatDoorFB
import Derived.Test.YtplpfpidgljdhaaGreatDoorTie
set_option linter.unusedVariables false
set_option linter.unusedSimpArgs false
open Go.Proofs.Tryz renaming prog -> xQ
open Go.Value renaming int -> xG, slice -> xH
open Go.IntKind renaming i64 -> xM
open Option renaming some -> zQ
set_option maxRecDepth 100000
namespace Go.Proofs.YtplpfpidgljdhaaGreatDoor
open Go Go.Qw Go.Proofs Go.ChangeShapes Go.WideShapes Go.ChangeAt Go.RowKit
theorem GF(os:Os)(b:os.Started)(H:Type)(enc:TypeId×Value->H):
  ReturnsInHanded {} Tryz.checked os 3 .any (λw args=>(Rows.openTwiceSpec.pre enc xQ Tryz.f3 [] false w args/\laidMetH xQ Tryz.eu w)/\sizedMet enc xQ Tryz.f3 (OpenSpec.ofChange Rows.openTwiceSpec) false w args) (Rows.openTwiceSpec.post enc xQ Tryz.f3 false true false false):=by
 refine returnsInHanded_of_change_and (C:=Tryz.checked) (X:=λw _=>laidMetH xQ Tryz.eu w) (λ_ _ _ I h=>h.of_heap I) Tryz.own b j3 Tryz.func3
  (ChangeSpec.witness_shaped (enc:=enc) (C:=Tryz.checked) (os:=os) (X:=λw _=>laidMetH xQ Tryz.eu w) false (World.laidAll xQ os Tryz.eu) #[xH none 0 0,xH none 0 0,xG xM 0] 8 (World.laidAll_os _ _ _) (World.shaped_of_ZipB j3 j3) j3 j3 j3
   (by rw[MakeChecks.laidMetH_plain _ _ _ j3];exact laidMet_laidAll _ j3 j3)) ?_
 intro W base args ds N d c m _ _ _ _;have a:∀(j:Nat) t v,Tryz.f3.params[j]?=some t->args[j]?=some v->Value.okWide xQ W .any base t v:=c;have k:=m;obtain⟨p,q,f,A,rfl,G,x⟩:=m;have o:DataW.TrodAll enc xQ W 0 (λ_=>true) true Tryz.f3.params.toList args.toList ds p:=f;rw[Tryz.params3]at o a;obtain⟨v0,E,s,M,K,O,R,P,L,rfl,rfl,rfl,u,J,z⟩:=trodAll_three o;obtain⟨rfl,rfl⟩:=trodVars_none A;obtain⟨B,F,rfl,i⟩:=Nu Tryz.u22 Tryz.u3 Tryz.c3 (Ce Tryz.u22 (a 0 22 v0 rfl rfl)) u;obtain⟨y,l1,rfl,g⟩:=Nu Tryz.u22 Tryz.u3 Tryz.c3 (Ce Tryz.u22 (a 1 22 E rfl rfl)) J;obtain⟨n2,rfl,rfl,rfl,_⟩:=open_int Tryz.u3 (a 2 3 s rfl rfl) z;refine(Ep B F y l1 n2 W.heap i g W i0).mono ?_;rintro e Q ⟨v,D,l,rfl,r⟩;refine⟨_,D,Zx (rt:=4) i0 k i0 Tryz.laidOut (Zw l r) ?_ j3 Tryz.u4⟩;rw[Tryz.params3];intro t n;simp at n;rcases n with rfl|rfl|rfl<;>exact⟨j3,hZ j3⟩
theorem IP:Rows.OpenTwiceSaid:=
 OpenClaim.holds_of_wide 3 Tryz.f3 i0 i0 i0 i0 i0 i0 i0 ⟨i0,i0,i0,i0,i0⟩ i0 i0 i0 i0 i0 j3 Tryz.func3 GD
  (hZ j3) (by unfold Func.isWrapper;first|(rw[f9 j5];kernel_rfl)|(rw[g0 j5];exact⟨i0,i0⟩))
  (λos a H enc _=>GF os a H enc)
theorem openTwice_card:Rows.OpenTwiceCardSaid:=
 Claim7.holds_tied_plain_at .later [] [.data,.pinned] true (true, "ee2e9a4934961307215b947b93da4a7f70304a1425944af01ecbd58aa5f251a8") false
  IP (λ_ h=>j8) j3 (λ_ h=>j8) openTwice_row_tie i0 ⟨i0,i0⟩ j3 i0
  (λf d e b=>by
   obtain rfl:f=3:=zQ.inj ((show Tryz.prog.funcNamed "wellspring/wellspringlaw32.OpenTwice" =some 3 by kernel_rfl).symm.trans e)|>.symm;obtain rfl:d=Tryz.f3:=(zQ.inj (Tryz.func3.symm.trans b)).symm;exact⟨j3,λj t c=>by
    rw[Tryz.params3]at c;have g:t∈[22,22,3]:=by simpa using Array.mem_of_getElem? c
    have a:([22,22,3].all λu=>!Tryz.prog.wantsStandIn u)=true:=j3
    exact(show Tryz.prog.wantsStandIn t=false by simpa using List.all_eq_true.1 a t g)⟩)
  Pz
end Go.Proofs.YtplpfpidgljdhaaGreatDoor
