/- Part of the proofs that the laws of this seat answer true whatever the input reads, and leave it as it was; no condition. -/
import Derived.Test.YtcjnjifdphcijaaGreatDoorKG
import Derived.Test.YtcjnjifdphcijaaGreatDoorFJ
import Derived.Test.YtcjnjifdphcijaaGreatDoorFB
import Derived.Test.YtcjnjifdphcijaaGreatDoorTie
set_option linter.unusedVariables false
set_option linter.unusedSimpArgs false
open Go.Proofs.Tryz renaming prog -> xT
open Go.Value renaming int -> xJ, slice -> xK
open Go.IntKind renaming i64 -> xP
open Option renaming some -> zX
set_option maxRecDepth 100000
namespace Go.Proofs.YtcjnjifdphcijaaGreatDoor
open Go Go.Qw Go.Proofs Go.ChangeShapes Go.WideShapes Go.ChangeAt Go.RowKit
theorem FL(os:Os)(b:os.Started)(H:Type)(enc:TypeId×Value->H):
  ReturnsInHanded {} Tryz.checked os 4 .any (λw args=>(Rows.archiveBackSpec.pre enc xT Tryz.f4 [] false w args/\laidMetH xT Tryz.dD w)/\sizedMet enc xT Tryz.f4 (OpenSpec.ofChange Rows.archiveBackSpec) false w args) (Rows.archiveBackSpec.post enc xT Tryz.f4 false true false false):=by
 refine returnsInHanded_of_change_and (C:=Tryz.checked) (X:=λw _=>laidMetH xT Tryz.dD w) (λ_ _ _ I h=>h.of_heap I) Tryz.own b js Tryz.func4
  (ChangeSpec.witness_shaped (enc:=enc) (C:=Tryz.checked) (os:=os) (X:=λw _=>laidMetH xT Tryz.dD w) false (World.laidAll xT os Tryz.dD) #[xK none 0 0,xK none 0 0,xK none 0 0,xK none 0 0,xJ xP 0] 8 (World.laidAll_os _ _ _) (World.shaped_of_ZipB js js) js js js
   (by rw[MakeChecks.laidMetH_plain _ _ _ js];exact laidMet_laidAll _ js js)) ?_
 intro W base args ds Z d c o _ _ _ _;have a:∀(j:Nat) t v,Tryz.f4.params[j]?=some t->args[j]?=some v->Value.okWide xT W .any base t v:=c;have k:=o;obtain⟨p,q,l,N,rfl,Q,x⟩:=o;have s:DataW.TrodAll enc xT W 0 (λ_=>true) true Tryz.f4.params.toList args.toList ds p:=l;rw[Tryz.params4]at s a;obtain⟨v0,M,z,v3,v4,T,d1,U,Y,d4,p0,p1,R,V,S,rfl,rfl,rfl,K,u,A,h3,D⟩:=Po s;obtain⟨rfl,rfl⟩:=trodVars_none N;obtain⟨E,B,rfl,i⟩:=CQ Tryz.MZ Tryz.u3 Tryz.c3 (oC Tryz.MZ (a 0 22 v0 rfl rfl)) K;obtain⟨L,l1,rfl,m⟩:=CQ Tryz.MZ Tryz.u3 Tryz.c3 (oC Tryz.MZ (a 1 22 M rfl rfl)) u;obtain⟨y,l2,rfl,g⟩:=CQ Tryz.MZ Tryz.u3 Tryz.c3 (oC Tryz.MZ (a 2 22 z rfl rfl)) A;obtain⟨P,J,rfl,n⟩:=CQ Tryz.MZ Tryz.u3 Tryz.c3 (oC Tryz.MZ (a 3 22 v3 rfl rfl)) h3;obtain⟨F,rfl,rfl,rfl,_⟩:=open_int Tryz.u3 (a 4 3 v4 rfl rfl) D;refine(Dw E B L l1 y l2 P J F W.heap i m g n W hZ).mono ?_;rintro e W' ⟨v,O,f,rfl,G⟩;refine⟨_,O,abW (rt:=4) hZ k hZ Tryz.laidOut (abV f G) ?_ js Tryz.u4⟩;rw[Tryz.params4];intro t r;simp at r;rcases r with rfl|rfl|rfl|rfl|rfl<;>exact⟨js,hU js⟩
theorem Gy:Rows.ArchiveBackSaid:=
 OpenClaim.holds_of_wide 4 Tryz.f4 hZ hZ hZ hZ hZ hZ hZ ⟨hZ,hZ,hZ,hZ,hZ⟩ hZ hZ hZ hZ hZ js Tryz.func4 FK
  (hU js) (by unfold Func.isWrapper;first|(rw[f8 j0];kernel_rfl)|(rw[f9 j0];exact⟨hZ,hZ⟩))
  (λos a H enc _=>FL os a H enc)
theorem archiveBack_card:Rows.ArchiveBackCardSaid:=
 Claim7.holds_tied_plain_at .later [] [.data,.pinned] true (true, "a3d38abdc3852848b66bfad1a20dc8a44b1e71e163a5e66fdd2fc56b34780143") false
  Gy (λ_ h=>j8) js (λ_ h=>j8) archiveBack_row_tie hZ ⟨hZ,hZ⟩ js hZ
  (λf g d b=>by
   obtain rfl:f=4:=zX.inj ((show Tryz.prog.funcNamed "wellspring/wellspringlaw33.ArchiveBack" =some 4 by kernel_rfl).symm.trans d)|>.symm;obtain rfl:g=Tryz.f4:=(zX.inj (Tryz.func4.symm.trans b)).symm;exact⟨js,λj t c=>by
    rw[Tryz.params4]at c;have e:t∈[22,22,22,22,3]:=by simpa using Array.mem_of_getElem? c
    have a:([22,22,22,22,3].all λu=>!Tryz.prog.wantsStandIn u)=true:=js
    exact(show Tryz.prog.wantsStandIn t=false by simpa using List.all_eq_true.1 a t e)⟩)
  Lz
end Go.Proofs.YtcjnjifdphcijaaGreatDoor
