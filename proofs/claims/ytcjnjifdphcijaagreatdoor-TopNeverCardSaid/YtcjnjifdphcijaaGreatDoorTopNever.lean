/- Part of the proofs that the laws of this seat answer true whatever the input reads, and leave it as it was; no condition. -/
import Derived.Test.YtcjnjifdphcijaaGreatDoorTKF
import Derived.Test.YtcjnjifdphcijaaGreatDoorTFJ
import Derived.Test.YtcjnjifdphcijaaGreatDoorTFB
import Derived.Test.YtcjnjifdphcijaaGreatDoorTie
set_option linter.unusedVariables false
set_option linter.unusedSimpArgs false
open Go.Proofs.Tryz renaming prog -> xJ
open Go.Value renaming int -> xz, slice -> xA
open Go.IntKind renaming i64 -> xF
open Option renaming some -> zQ
set_option maxRecDepth 100000
namespace Go.Proofs.YtcjnjifdphcijaaGreatDoor
open Go Go.Qw Go.Proofs Go.ChangeShapes Go.WideShapes Go.ChangeAt Go.RowKit
theorem Il(os:Os)(b:os.Started)(H:Type)(enc:TypeId×Value->H):
  ReturnsInHanded {} Tryz.checked os 3 .any (λw args=>(Rows.topNeverSpec.pre enc xJ Tryz.f3 [] false w args/\laidMetH xJ Tryz.fd w)/\sizedMet enc xJ Tryz.f3 (OpenSpec.ofChange Rows.topNeverSpec) false w args) (Rows.topNeverSpec.post enc xJ Tryz.f3 false true false false):=by
 refine returnsInHanded_of_change_and (C:=Tryz.checked) (X:=λw _=>laidMetH xJ Tryz.fd w) (λ_ _ _ L h=>h.of_heap L) Tryz.own b j3 Tryz.func3
  (ChangeSpec.witness_shaped (enc:=enc) (C:=Tryz.checked) (os:=os) (X:=λw _=>laidMetH xJ Tryz.fd w) false (World.laidAll xJ os Tryz.fd) #[xA none 0 0,xA none 0 0,xA none 0 0,xz xF 0] 8 (World.laidAll_os _ _ _) (World.shaped_of_ZipB j3 j3) j3 j3 j3
   (by rw[MakeChecks.laidMetH_plain _ _ _ j3];exact laidMet_laidAll _ j3 j3)) ?_
 intro W base args ds N d c r _ _ _ _;have a:∀(j:Nat) t v,Tryz.f3.params[j]?=some t->args[j]?=some v->Value.okWide xJ W .any base t v:=c;have l:=r;obtain⟨p,q,g,M,rfl,x,z⟩:=r;have o:DataW.TrodAll enc xJ W 0 (λ_=>true) true Tryz.f3.params.toList args.toList ds p:=g;rw[Tryz.params3]at o a;obtain⟨v0,F,D,v3,U,T,V,Y,R,P,S,Q,rfl,rfl,rfl,G,B,I,h3⟩:=trodAll_four o;obtain⟨rfl,rfl⟩:=trodVars_none M;obtain⟨E,s,rfl,m⟩:=FG Tryz.Rc Tryz.u3 Tryz.c3 (rP Tryz.Rc (a 0 22 v0 rfl rfl)) G;obtain⟨y,l1,rfl,f⟩:=FG Tryz.Rc Tryz.u3 Tryz.c3 (rP Tryz.Rc (a 1 22 F rfl rfl)) B;obtain⟨J,l2,rfl,i⟩:=FG Tryz.Rc Tryz.u3 Tryz.c3 (rP Tryz.Rc (a 2 22 D rfl rfl)) I;obtain⟨K,rfl,rfl,rfl,_⟩:=open_int Tryz.u3 (a 3 3 v3 rfl rfl) h3;refine(EH E s y l1 J l2 K W.heap m f i W i4).mono ?_;rintro e O ⟨v,u,k,rfl,A⟩;refine⟨_,u,Yz (rt:=4) i4 l i4 Tryz.laidOut (Yy k A) ?_ j3 Tryz.u4⟩;rw[Tryz.params3];intro t n;simp at n;rcases n with rfl|rfl|rfl|rfl<;>exact⟨j3,ii j3⟩
theorem Jo:Rows.TopNeverSaid:=
 OpenClaim.holds_of_wide 3 Tryz.f3 i4 i4 i4 i4 i4 i4 i4 ⟨i4,i4,i4,i4,i4⟩ i4 i4 i4 i4 i4 j3 Tryz.func3 Ik
  (ii j3) (by unfold Func.isWrapper;first|(rw[g0 j4];kernel_rfl)|(rw[g9 j4];exact⟨i4,i4⟩))
  (λos a H enc _=>Il os a H enc)
theorem topNever_card:Rows.TopNeverCardSaid:=
 Claim7.holds_tied_plain_at .later [] [.data,.pinned] true (true, "a3d38abdc3852848b66bfad1a20dc8a44b1e71e163a5e66fdd2fc56b34780143") false
  Jo (λ_ h=>j7) j3 (λ_ h=>j7) topNever_row_tie i4 ⟨i4,i4⟩ j3 i4
  (λf e g b=>by
   obtain rfl:f=3:=zQ.inj ((show Tryz.prog.funcNamed "wellspring/wellspringtop.TopNever" =some 3 by kernel_rfl).symm.trans g)|>.symm;obtain rfl:e=Tryz.f3:=(zQ.inj (Tryz.func3.symm.trans b)).symm;exact⟨j3,λj t c=>by
    rw[Tryz.params3]at c;have d:t∈[22,22,22,3]:=by simpa using Array.mem_of_getElem? c
    have a:([22,22,22,3].all λu=>!Tryz.prog.wantsStandIn u)=true:=j3
    exact(show Tryz.prog.wantsStandIn t=false by simpa using List.all_eq_true.1 a t d)⟩)
  Qf
end Go.Proofs.YtcjnjifdphcijaaGreatDoor
