/- Part of the proofs that the laws of this seat answer true whatever the input reads, and leave it as it was; no condition. -/
import Derived.Test.YtdibhfbogjngkaaGreatDoorKE
import Derived.Test.YtdibhfbogjngkaaGreatDoorFJ
import Derived.Test.YtdibhfbogjngkaaGreatDoorFB
import Derived.Test.YtdibhfbogjngkaaGreatDoorTie
set_option linter.unusedVariables false
set_option linter.unusedSimpArgs false
open Go.Proofs.Tryz renaming prog -> xt
open Go.Value renaming int -> xi, slice -> xj
open Go.IntKind renaming i64 -> xo
open Option renaming some -> zT
set_option maxRecDepth 100000
namespace Go.Proofs.YtdibhfbogjngkaaGreatDoor
open Go Go.Vc Go.Proofs Go.ChangeShapes Go.WideShapes Go.ChangeAt Go.RowKit Go.Qw
theorem JM(os:Os)(b:os.Started)(H:Type)(enc:TypeId×Value->H):
  ReturnsInHanded {} Tryz.checked os 5 .any (λw args=>(Rows.scrubMendsSpec.pre enc xt Tryz.f5 [] false w args/\laidMetH xt Tryz.gv w)/\sizedMet enc xt Tryz.f5 (OpenSpec.ofChange Rows.scrubMendsSpec) false w args) (Rows.scrubMendsSpec.post enc xt Tryz.f5 false true false false):=by
 refine returnsInHanded_of_change_and (C:=Tryz.checked) (X:=λw _=>laidMetH xt Tryz.gv w) (λ_ _ _ I h=>h.of_heap I) Tryz.own b j4 Tryz.func5
  (ChangeSpec.witness_shaped (enc:=enc) (C:=Tryz.checked) (os:=os) (X:=λw _=>laidMetH xt Tryz.gv w) false (World.laidAll xt os Tryz.gv) #[xj none 0 0,xi xo 0,xi xo 0,xi xo 0,xi xo 0] 8 (World.laidAll_os _ _ _) (World.shaped_of_ZipB j4 j4) j4 j4 j4
   (by rw[MakeChecks.laidMetH_plain _ _ _ j4];exact laidMet_laidAll _ j4 j4)) ?_
 intro W base args ds U d c m _ _ _ _;have a:∀(j:Nat) t v,Tryz.f5.params[j]?=some t->args[j]?=some v->Value.okWide xt W .any base t v:=c;have i:=m;obtain⟨p,q,g,x,rfl,r,y⟩:=m;have l:DataW.TrodAll enc xt W 0 (λ_=>true) true Tryz.f5.params.toList args.toList ds p:=g;rw[Tryz.params5]at l a;obtain⟨v0,u,K,v3,v4,N,V,T,S,Y,P,R,O,Q,M,rfl,rfl,rfl,z,s,A,h3,D⟩:=Tr l;obtain⟨rfl,rfl⟩:=trodVars_none x;obtain⟨E,B,rfl,f⟩:=adP Tryz.u22 Tryz.u3 Tryz.c3 (Rf Tryz.u22 (a 0 22 v0 rfl rfl)) z;obtain⟨n1,rfl,rfl,rfl,_⟩:=open_int Tryz.u3 (a 1 3 u rfl rfl) s;obtain⟨n2,rfl,rfl,rfl,_⟩:=open_int Tryz.u3 (a 2 3 K rfl rfl) A;obtain⟨F,rfl,rfl,rfl,_⟩:=open_int Tryz.u3 (a 3 3 v3 rfl rfl) h3;obtain⟨G,rfl,rfl,rfl,_⟩:=open_int Tryz.u3 (a 4 3 v4 rfl rfl) D;refine(Gt E B n1 n2 F G W.heap f W i4).mono ?_;rintro e L ⟨v,J,k,rfl,o⟩;refine⟨_,J,adO (rt:=4) i4 i i4 Tryz.laidOut (adN k o) ?_ j4 Tryz.u4⟩;rw[Tryz.params5];intro t n;simp at n;rcases n with rfl|rfl|rfl|rfl|rfl<;>exact⟨j4,ii j4⟩
theorem LL:Rows.ScrubMendsSaid:=
 OpenClaim.holds_of_wide 5 Tryz.f5 i4 i4 i4 i4 i4 i4 i4 ⟨i4,i4,i4,i4,i4⟩ i4 i4 i4 i4 i4 j4 Tryz.func5 JL
  (ii j4) (by unfold Func.isWrapper;first|(rw[f9 j6];kernel_rfl)|(rw[g0 j6];exact⟨i4,i4⟩))
  (λos a H enc _=>JM os a H enc)
theorem scrubMends_card:Rows.ScrubMendsCardSaid:=
 Claim7.holds_tied_plain_at .later [] [.data,.pinned] true (true, "7434f311fcca4b33a11ffad87edc1dec4ba5a810175aab90b4607b77ccaab257") false
  LL (λ_ h=>k5) j4 (λ_ h=>k5) scrubMends_row_tie i4 ⟨i4,i4⟩ j4 i4
  (λf e d b=>by
   obtain rfl:f=5:=zT.inj ((show Tryz.prog.funcNamed "wellspring/wellspringlaw31.ScrubMends" =some 5 by kernel_rfl).symm.trans d)|>.symm;obtain rfl:e=Tryz.f5:=(zT.inj (Tryz.func5.symm.trans b)).symm;exact⟨j4,λj t c=>by
    rw[Tryz.params5]at c;have g:t∈[22,3,3,3,3]:=by simpa using Array.mem_of_getElem? c
    have a:([22,3,3,3,3].all λu=>!Tryz.prog.wantsStandIn u)=true:=j4
    exact(show Tryz.prog.wantsStandIn t=false by simpa using List.all_eq_true.1 a t g)⟩)
  RV
end Go.Proofs.YtdibhfbogjngkaaGreatDoor
