/- Part of the proofs that the laws of this seat answer true whatever the input reads, and leave it as it was; no condition. -/
import Derived.Test.YtdibhfbogjngkaaGreatDoorKE
import Derived.Test.YtdibhfbogjngkaaGreatDoorFJ
import Derived.Test.YtdibhfbogjngkaaGreatDoorFB
import Derived.Test.YtdibhfbogjngkaaGreatDoorTie
set_option linter.unusedVariables false
set_option linter.unusedSimpArgs false
open Go.Proofs.Tryz renaming prog -> xm
open Go.Value renaming int -> xb, slice -> xc
open Go.IntKind renaming i64 -> xi
open Option renaming some -> zS
set_option maxRecDepth 100000
namespace Go.Proofs.YtdibhfbogjngkaaGreatDoor
open Go Go.Vc Go.Proofs Go.ChangeShapes Go.WideShapes Go.ChangeAt Go.RowKit Go.Qw
theorem Jm(os:Os)(b:os.Started)(H:Type)(enc:TypeId×Value->H):
  ReturnsInHanded {} Tryz.checked os 3 .any (λw args=>(Rows.scrubLeastSpec.pre enc xm Tryz.f3 [] false w args/\laidMetH xm Tryz.gq w)/\sizedMet enc xm Tryz.f3 (OpenSpec.ofChange Rows.scrubLeastSpec) false w args) (Rows.scrubLeastSpec.post enc xm Tryz.f3 false true false false):=by
 refine returnsInHanded_of_change_and (C:=Tryz.checked) (X:=λw _=>laidMetH xm Tryz.gq w) (λ_ _ _ D h=>h.of_heap D) Tryz.own b l0 Tryz.func3
  (ChangeSpec.witness_shaped (enc:=enc) (C:=Tryz.checked) (os:=os) (X:=λw _=>laidMetH xm Tryz.gq w) false (World.laidAll xm os Tryz.gq) #[xc none 0 0,xb xi 0,xb xi 0,xb xi 0] 8 (World.laidAll_os _ _ _) (World.shaped_of_ZipB l0 l0) l0 l0 l0
   (by rw[MakeChecks.laidMetH_plain _ _ _ l0];exact laidMet_laidAll _ l0 l0)) ?_
 intro W base args ds M d c l _ _ _ _;have a:∀(j:Nat) t v,Tryz.f3.params[j]?=some t->args[j]?=some v->Value.okWide xm W .any base t v:=c;have k:=l;obtain⟨p,q,f,o,rfl,x,s⟩:=l;have m:DataW.TrodAll enc xm W 0 (λ_=>true) true Tryz.f3.params.toList args.toList ds p:=f;rw[Tryz.params3]at m a;obtain⟨v0,I,u,v3,J,Q,L,S,N,O,P,K,rfl,rfl,rfl,r,F,E,h3⟩:=trodAll_four m;obtain⟨rfl,rfl⟩:=trodVars_none o;obtain⟨A,B,rfl,g⟩:=adl Tryz.u22 Tryz.u3 Tryz.c3 (Qv Tryz.u22 (a 0 22 v0 rfl rfl)) r;obtain⟨n1,rfl,rfl,rfl,_⟩:=open_int Tryz.u3 (a 1 3 I rfl rfl) F;obtain⟨n2,rfl,rfl,rfl,_⟩:=open_int Tryz.u3 (a 2 3 u rfl rfl) E;obtain⟨z,rfl,rfl,rfl,_⟩:=open_int Tryz.u3 (a 3 3 v3 rfl rfl) h3;refine(FO A B n1 n2 z W.heap g W k0).mono ?_;rintro e R ⟨v,y,i,rfl,G⟩;refine⟨_,y,adk (rt:=4) k0 k k0 Tryz.laidOut (adj i G) ?_ l0 Tryz.u4⟩;rw[Tryz.params3];intro t n;simp at n;rcases n with rfl|rfl|rfl|rfl<;>exact⟨l0,j8 l0⟩
theorem Li:Rows.ScrubLeastSaid:=
 OpenClaim.holds_of_wide 3 Tryz.f3 k0 k0 k0 k0 k0 k0 k0 ⟨k0,k0,k0,k0,k0⟩ k0 k0 k0 k0 k0 l0 Tryz.func3 Jl
  (j8 l0) (by unfold Func.isWrapper;first|(rw[j1 l4];kernel_rfl)|(rw[j3 l4];exact⟨k0,k0⟩))
  (λos a H enc _=>Jm os a H enc)
theorem scrubLeast_card:Rows.ScrubLeastCardSaid:=
 Claim7.holds_tied_plain_at .later [] [.data,.pinned] true (true, "7434f311fcca4b33a11ffad87edc1dec4ba5a810175aab90b4607b77ccaab257") false
  Li (λ_ h=>l9) l0 (λ_ h=>l9) scrubLeast_row_tie k0 ⟨k0,k0⟩ l0 k0
  (λf g d b=>by
   obtain rfl:f=3:=zS.inj ((show Tryz.prog.funcNamed "wellspring/wellspringlaw31.ScrubLeast" =some 3 by kernel_rfl).symm.trans d)|>.symm;obtain rfl:g=Tryz.f3:=(zS.inj (Tryz.func3.symm.trans b)).symm;exact⟨l0,λj t c=>by
    rw[Tryz.params3]at c;have e:t∈[22,3,3,3]:=by simpa using Array.mem_of_getElem? c
    have a:([22,3,3,3].all λu=>!Tryz.prog.wantsStandIn u)=true:=l0
    exact(show Tryz.prog.wantsStandIn t=false by simpa using List.all_eq_true.1 a t e)⟩)
  Rm
end Go.Proofs.YtdibhfbogjngkaaGreatDoor
