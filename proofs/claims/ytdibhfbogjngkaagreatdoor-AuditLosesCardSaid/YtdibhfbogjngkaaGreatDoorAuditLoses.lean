/- Part of the proofs that the laws of this seat answer true whatever the input reads, and leave it as it was; no condition. -/
import Derived.Test.YtdibhfbogjngkaaGreatDoorKF
import Derived.Test.YtdibhfbogjngkaaGreatDoorFJ
import Derived.Test.YtdibhfbogjngkaaGreatDoorFB
import Derived.Test.YtdibhfbogjngkaaGreatDoorTie
set_option linter.unusedVariables false
set_option linter.unusedSimpArgs false
open Go.Proofs.Tryz renaming prog -> xR
open Go.Value renaming int -> xH, slice -> xI
open Go.IntKind renaming i64 -> xN
open Option renaming some -> zS
set_option maxRecDepth 100000
namespace Go.Proofs.YtdibhfbogjngkaaGreatDoor
open Go Go.Vc Go.Proofs Go.ChangeShapes Go.WideShapes Go.ChangeAt Go.RowKit Go.Qw
theorem Jx(os:Os)(b:os.Started)(H:Type)(enc:TypeId×Value->H):
  ReturnsInHanded {} Tryz.checked os 4 .any (λw args=>(Rows.auditLosesSpec.pre enc xR Tryz.f4 [] false w args/\laidMetH xR Tryz.ee w)/\sizedMet enc xR Tryz.f4 (OpenSpec.ofChange Rows.auditLosesSpec) false w args) (Rows.auditLosesSpec.post enc xR Tryz.f4 false true false false):=by
 refine returnsInHanded_of_change_and (C:=Tryz.checked) (X:=λw _=>laidMetH xR Tryz.ee w) (λ_ _ _ A h=>h.of_heap A) Tryz.own b j1 Tryz.func4
  (ChangeSpec.witness_shaped (enc:=enc) (C:=Tryz.checked) (os:=os) (X:=λw _=>laidMetH xR Tryz.ee w) false (World.laidAll xR os Tryz.ee) #[xI none 0 0,xI none 0 0,xH xN 0,xH xN 0] 8 (World.laidAll_os _ _ _) (World.shaped_of_ZipB j1 j1) j1 j1 j1
   (by rw[MakeChecks.laidMetH_plain _ _ _ j1];exact laidMet_laidAll _ j1 j1)) ?_
 intro W base args ds P d c m _ _ _ _;have a:∀(j:Nat) t v,Tryz.f4.params[j]?=some t->args[j]?=some v->Value.okWide xR W .any base t v:=c;have g:=m;obtain⟨p,q,l,F,rfl,B,u⟩:=m;have n:DataW.TrodAll enc xR W 0 (λ_=>true) true Tryz.f4.params.toList args.toList ds p:=l;rw[Tryz.params4]at n a;obtain⟨v0,I,K,v3,R,Q,N,U,T,L,O,S,rfl,rfl,rfl,y,D,r,h3⟩:=trodAll_four n;obtain⟨rfl,rfl⟩:=trodVars_none F;obtain⟨z,s,rfl,f⟩:=Tk Tryz.u22 Tryz.u3 Tryz.c3 (Fl Tryz.u22 (a 0 22 v0 rfl rfl)) y;obtain⟨x,l1,rfl,k⟩:=Tk Tryz.u22 Tryz.u3 Tryz.c3 (Fl Tryz.u22 (a 1 22 I rfl rfl)) D;obtain⟨n2,rfl,rfl,rfl,_⟩:=open_int Tryz.u3 (a 2 3 K rfl rfl) r;obtain⟨J,rfl,rfl,rfl,_⟩:=open_int Tryz.u3 (a 3 3 v3 rfl rfl) h3;refine(Gg z s x l1 n2 J W.heap f k W i0).mono ?_;rintro e M ⟨v,G,i,rfl,E⟩;refine⟨_,G,adj (rt:=4) i0 g i0 Tryz.laidOut (adi i E) ?_ j1 Tryz.u4⟩;rw[Tryz.params4];intro t o;simp at o;rcases o with rfl|rfl|rfl|rfl<;>exact⟨j1,hY j1⟩
theorem Lr:Rows.AuditLosesSaid:=
 OpenClaim.holds_of_wide 4 Tryz.f4 i0 i0 i0 i0 i0 i0 i0 ⟨i0,i0,i0,i0,i0⟩ i0 i0 i0 i0 i0 j1 Tryz.func4 Jw
  (hY j1) (by unfold Func.isWrapper;first|(rw[f9 j4];kernel_rfl)|(rw[g0 j4];exact⟨i0,i0⟩))
  (λos a H enc _=>Jx os a H enc)
theorem auditLoses_card:Rows.AuditLosesCardSaid:=
 Claim7.holds_tied_plain_at .later [] [.data,.pinned] true (true, "7434f311fcca4b33a11ffad87edc1dec4ba5a810175aab90b4607b77ccaab257") false
  Lr (λ_ h=>j6) j1 (λ_ h=>j6) auditLoses_row_tie i0 ⟨i0,i0⟩ j1 i0
  (λf e d b=>by
   obtain rfl:f=4:=zS.inj ((show Tryz.prog.funcNamed "wellspring/wellspringlaw35.AuditLoses" =some 4 by kernel_rfl).symm.trans d)|>.symm;obtain rfl:e=Tryz.f4:=(zS.inj (Tryz.func4.symm.trans b)).symm;exact⟨j1,λj t c=>by
    rw[Tryz.params4]at c;have g:t∈[22,22,3,3]:=by simpa using Array.mem_of_getElem? c
    have a:([22,22,3,3].all λu=>!Tryz.prog.wantsStandIn u)=true:=j1
    exact(show Tryz.prog.wantsStandIn t=false by simpa using List.all_eq_true.1 a t g)⟩)
  RI
end Go.Proofs.YtdibhfbogjngkaaGreatDoor
