/- Part of the proofs that the laws of this seat answer true whatever the input reads, and leave it as it was; no condition. -/
import Derived.Test.YtcaonbjibhlkcaaGreatDoorKF
import Derived.Test.YtcaonbjibhlkcaaGreatDoorFJ
import Derived.Test.YtcaonbjibhlkcaaGreatDoorFB
import Derived.Test.YtcaonbjibhlkcaaGreatDoorTie
set_option linter.unusedVariables false
set_option linter.unusedSimpArgs false
open Go.Proofs.Tryz renaming prog -> xv
open Go.Value renaming int -> xk, slice -> xl
open Go.IntKind renaming i64 -> xq, u64 -> xu
open Option renaming some -> zO
set_option maxRecDepth 100000
namespace Go.Proofs.YtcaonbjibhlkcaaGreatDoor
open Go Go.Vc Go.Proofs Go.ChangeShapes Go.WideShapes Go.ChangeAt Go.RowKit Go.Qw
theorem GR(os:Os)(b:os.Started)(H:Type)(enc:TypeId×Value->H):
  ReturnsInHanded {} Tryz.checked os 3 .any (fun w args=>(Rows.topRatelessSpec.pre enc xv Tryz.f3 [] false w args/\laidMetH xv Tryz.eE w)/\sizedMet enc xv Tryz.f3 (OpenSpec.ofChange Rows.topRatelessSpec) false w args) (Rows.topRatelessSpec.post enc xv Tryz.f3 false true false false):=by
 refine returnsInHanded_of_change_and (C:=Tryz.checked) (X:=fun w _=>laidMetH xv Tryz.eE w) (fun _ _ _ G h=>h.of_heap G) Tryz.own b (by kernel_rfl) Tryz.func3
  (ChangeSpec.witness_shaped (enc:=enc) (C:=Tryz.checked) (os:=os) (X:=fun w _=>laidMetH xv Tryz.eE w) false (World.laidAll xv os Tryz.eE) #[xk xq 0,xk xq 0,xk xq 0,xk xu 0,xl none 0 0,xk xq 0] 8 (World.laidAll_os _ _ _) (World.shaped_of_ZipB (by kernel_rfl) (by kernel_rfl)) (by kernel_rfl) (by kernel_rfl) (by kernel_rfl)
   (by rw[MakeChecks.laidMetH_plain _ _ _ (by kernel_rfl)];exact laidMet_laidAll _ (by kernel_rfl) (by kernel_rfl))) ?_
 intro W base args ds gs d c l _ _ _ _;have a:∀(j:Nat) t v,Tryz.f3.params[j]?=some t->args[j]?=some v->Value.okWide xv W .any base t v:=c;have g:=l;obtain⟨p,q,i,u,rfl,s,z⟩:=l;have n:DataW.TrodAll enc xv W 0 (fun _=>true) true Tryz.f3.params.toList args.toList ds p:=i;rw[Tryz.params3]at n a;obtain⟨v0,B,N,v3,v4,v5,V,S,P,Z,d4,U,p0,Q,Y,p3,T,p5,rfl,rfl,rfl,D,E,I,h3,O,K⟩:=SO n;obtain⟨rfl,rfl⟩:=trodVars_none u;obtain⟨M,rfl,rfl,rfl,_⟩:=open_int Tryz.u3 (a 0 3 v0 rfl rfl) D;obtain⟨n1,rfl,rfl,rfl,_⟩:=open_int Tryz.u3 (a 1 3 B rfl rfl) E;obtain⟨n2,rfl,rfl,rfl,_⟩:=open_int Tryz.u3 (a 2 3 N rfl rfl) I;obtain⟨y,rfl,rfl,rfl,J⟩:=open_int Tryz.u22 (a 3 22 v3 rfl rfl) h3;obtain⟨A,o,rfl,f,x⟩:=Yl Tryz.u23 Tryz.u5 Tryz.c5 (Oj Tryz.u23 (a 4 23 v4 rfl rfl)) O;obtain⟨r,rfl,rfl,rfl,_⟩:=open_int Tryz.u3 (a 5 3 v5 rfl rfl) K;refine(DG M n1 n2 y A o r W.heap f W rfl).mono ?_;rintro e R ⟨v,F,k,rfl,L⟩;refine⟨_,F,aaP (rt:=4) rfl g rfl Tryz.laidOut (aaO k L) ?_ (by kernel_rfl) Tryz.u4⟩;rw[Tryz.params3];intro t m;simp at m;rcases m with rfl|rfl|rfl|rfl|rfl|rfl<;>exact⟨by kernel_rfl,of_decide_eq_true (by kernel_rfl)⟩
theorem HB:Rows.TopRatelessSaid:=
 OpenClaim.holds_of_wide 3 Tryz.f3 rfl rfl rfl rfl rfl rfl rfl ⟨rfl,rfl,rfl,rfl,rfl⟩ rfl rfl rfl rfl rfl (by kernel_rfl) Tryz.func3 GQ
  (of_decide_eq_true (by kernel_rfl)) (by unfold Func.isWrapper;first|(rw[if_pos (by decide+kernel)];kernel_rfl)|(rw[if_neg (by decide+kernel)];exact⟨rfl,rfl⟩))
  (fun os a H enc _=>GR os a H enc)
theorem topRateless_card:Rows.TopRatelessCardSaid:=
 Claim7.holds_tied_plain_at .later [] [.data,.pinned] true (true, "62e5f59192cf573ad58362edab98437c709cb1c1ee5deb4796e37706faa22d45") false
  HB (fun _ h=>by cases h) (by kernel_rfl) (fun _ h=>by cases h) topRateless_row_tie rfl ⟨rfl,rfl⟩ (by kernel_rfl) rfl
  (fun f g d b=>by
   obtain rfl:f=3:=zO.inj ((show Tryz.prog.funcNamed "wellspring/wellspringtop.TopRateless" =some 3 by kernel_rfl).symm.trans d)|>.symm;obtain rfl:g=Tryz.f3:=(zO.inj (Tryz.func3.symm.trans b)).symm;exact⟨by kernel_rfl,fun j t c=>by
    rw[Tryz.params3]at c;have e:t∈[3,3,3,22,23,3]:=by simpa using Array.mem_of_getElem? c
    have a:([3,3,3,22,23,3].all fun u=>!Tryz.prog.wantsStandIn u)=true:=by kernel_rfl
    exact(show Tryz.prog.wantsStandIn t=false by simpa using List.all_eq_true.1 a t e)⟩)
  ML
end Go.Proofs.YtcaonbjibhlkcaaGreatDoor
