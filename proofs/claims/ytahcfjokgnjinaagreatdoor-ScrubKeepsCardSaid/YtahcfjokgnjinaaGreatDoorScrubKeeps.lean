/- Part of the proofs that the laws of this seat answer true whatever the input reads, and leave it as it was; no condition. -/
import Derived.Test.YtahcfjokgnjinaaGreatDoorKE
import Derived.Test.YtahcfjokgnjinaaGreatDoorFJ
import Derived.Test.YtahcfjokgnjinaaGreatDoorFB
import Derived.Test.YtahcfjokgnjinaaGreatDoorTie
set_option linter.unusedVariables false
set_option linter.unusedSimpArgs false
open Go.Proofs.Tryz renaming prog -> xD
open Go.Value renaming int -> xt, slice -> xu
open Go.IntKind renaming i64 -> xz
open Option renaming some -> zP
set_option maxRecDepth 100000
namespace Go.Proofs.YtahcfjokgnjinaaGreatDoor
open Go Go.Vc Go.Proofs Go.ChangeShapes Go.WideShapes Go.ChangeAt Go.RowKit Go.Qw
theorem GA(os:Os)(b:os.Started)(H:Type)(enc:TypeId×Value->H):
  ReturnsInHanded {} Tryz.checked os 3 .any (λw args=>(Rows.scrubKeepsSpec.pre enc xD Tryz.f3 [] false w args/\laidMetH xD Tryz.eI w)/\sizedMet enc xD Tryz.f3 (OpenSpec.ofChange Rows.scrubKeepsSpec) false w args) (Rows.scrubKeepsSpec.post enc xD Tryz.f3 false true false false):=by
 refine returnsInHanded_of_change_and (C:=Tryz.checked) (X:=λw _=>laidMetH xD Tryz.eI w) (λ_ _ _ E h=>h.of_heap E) Tryz.own b j1 Tryz.func3
  (ChangeSpec.witness_shaped (enc:=enc) (C:=Tryz.checked) (os:=os) (X:=λw _=>laidMetH xD Tryz.eI w) false (World.laidAll xD os Tryz.eI) #[xu none 0 0,xu none 0 0,xt xz 0,xt xz 0] 8 (World.laidAll_os _ _ _) (World.shaped_of_ZipB j1 j1) j1 j1 j1
   (by rw[MakeChecks.laidMetH_plain _ _ _ j1];exact laidMet_laidAll _ j1 j1)) ?_
 intro W base args ds N d c n _ _ _ _;have a:∀(j:Nat) t v,Tryz.f3.params[j]?=some t->args[j]?=some v->Value.okWide xD W .any base t v:=c;have k:=n;obtain⟨p,q,f,G,rfl,A,K⟩:=n;have m:DataW.TrodAll enc xD W 0 (λ_=>true) true Tryz.f3.params.toList args.toList ds p:=f;rw[Tryz.params3]at m a;obtain⟨v0,s,r,v3,P,U,M,T,O,S,Q,L,rfl,rfl,rfl,y,J,B,h3⟩:=trodAll_four m;obtain⟨rfl,rfl⟩:=trodVars_none G;obtain⟨D,I,rfl,i⟩:=Pv Tryz.u22 Tryz.u3 Tryz.c3 (Dh Tryz.u22 (a 0 22 v0 rfl rfl)) y;obtain⟨z,l1,rfl,g⟩:=Pv Tryz.u22 Tryz.u3 Tryz.c3 (Dh Tryz.u22 (a 1 22 s rfl rfl)) J;obtain⟨n2,rfl,rfl,rfl,_⟩:=open_int Tryz.u3 (a 2 3 r rfl rfl) B;obtain⟨u,rfl,rfl,rfl,_⟩:=open_int Tryz.u3 (a 3 3 v3 rfl rfl) h3;refine(DB D I z l1 n2 u W.heap i g W i0).mono ?_;rintro e R ⟨v,x,l,rfl,F⟩;refine⟨_,x,aaI (rt:=4) i0 k i0 Tryz.laidOut (aaH l F) ?_ j1 Tryz.u4⟩;rw[Tryz.params3];intro t o;simp at o;rcases o with rfl|rfl|rfl|rfl<;>exact⟨j1,hZ j1⟩
theorem Is:Rows.ScrubKeepsSaid:=
 OpenClaim.holds_of_wide 3 Tryz.f3 i0 i0 i0 i0 i0 i0 i0 ⟨i0,i0,i0,i0,i0⟩ i0 i0 i0 i0 i0 j1 Tryz.func3 Gz
  (hZ j1) (by unfold Func.isWrapper;first|(rw[f9 j4];kernel_rfl)|(rw[g0 j4];exact⟨i0,i0⟩))
  (λos a H enc _=>GA os a H enc)
theorem scrubKeeps_card:Rows.ScrubKeepsCardSaid:=
 Claim7.holds_tied_plain_at .later [] [.data,.pinned] true (true, "76bf5a383c22b4ce29e44b73b2db6234048cec07b285d29570841ffa5b290997") false
  Is (λ_ h=>j8) j1 (λ_ h=>j8) scrubKeeps_row_tie i0 ⟨i0,i0⟩ j1 i0
  (λf d e b=>by
   obtain rfl:f=3:=zP.inj ((show Tryz.prog.funcNamed "wellspring/wellspringlaw31.ScrubKeeps" =some 3 by kernel_rfl).symm.trans e)|>.symm;obtain rfl:d=Tryz.f3:=(zP.inj (Tryz.func3.symm.trans b)).symm;exact⟨j1,λj t c=>by
    rw[Tryz.params3]at c;have g:t∈[22,22,3,3]:=by simpa using Array.mem_of_getElem? c
    have a:([22,22,3,3].all λu=>!Tryz.prog.wantsStandIn u)=true:=j1
    exact(show Tryz.prog.wantsStandIn t=false by simpa using List.all_eq_true.1 a t g)⟩)
  NX
end Go.Proofs.YtahcfjokgnjinaaGreatDoor
