/- Part of the proofs that the laws of this seat answer true whatever the input reads, and leave it as it was; no condition. -/
import Derived.Test.YtahcfjokgnjinaaGreatDoorKE
import Derived.Test.YtahcfjokgnjinaaGreatDoorFJ
import Derived.Test.YtahcfjokgnjinaaGreatDoorFB
import Derived.Test.YtahcfjokgnjinaaGreatDoorTie
set_option linter.unusedVariables false
set_option linter.unusedSimpArgs false
open Go.Proofs.Tryz renaming prog -> xB
open Go.Value renaming int -> xq, slice -> xr
open Go.IntKind renaming i64 -> xx
open Option renaming some -> zR
set_option maxRecDepth 100000
namespace Go.Proofs.YtahcfjokgnjinaaGreatDoor
open Go Go.Vc Go.Proofs Go.ChangeShapes Go.WideShapes Go.ChangeAt Go.RowKit Go.Qw
theorem Mm(os:Os)(b:os.Started)(H:Type)(enc:TypeId×Value->H):
  ReturnsInHanded {} Tryz.checked os 4 .any (λw args=>(Rows.auditLessSpec.pre enc xB Tryz.f4 [] false w args/\laidMetH xB Tryz.eG w)/\sizedMet enc xB Tryz.f4 (OpenSpec.ofChange Rows.auditLessSpec) false w args) (Rows.auditLessSpec.post enc xB Tryz.f4 false true false false):=by
 refine returnsInHanded_of_change_and (C:=Tryz.checked) (X:=λw _=>laidMetH xB Tryz.eG w) (λ_ _ _ A h=>h.of_heap A) Tryz.own b j3 Tryz.func4
  (ChangeSpec.witness_shaped (enc:=enc) (C:=Tryz.checked) (os:=os) (X:=λw _=>laidMetH xB Tryz.eG w) false (World.laidAll xB os Tryz.eG) #[xr none 0 0,xr none 0 0,xq xx 0,xq xx 0] 8 (World.laidAll_os _ _ _) (World.shaped_of_ZipB j3 j3) j3 j3 j3
   (by rw[MakeChecks.laidMetH_plain _ _ _ j3];exact laidMet_laidAll _ j3 j3)) ?_
 intro W base args ds U d c o _ _ _ _;have a:∀(j:Nat) t v,Tryz.f4.params[j]?=some t->args[j]?=some v->Value.okWide xB W .any base t v:=c;have f:=o;obtain⟨p,q,i,I,rfl,u,r⟩:=o;have m:DataW.TrodAll enc xB W 0 (λ_=>true) true Tryz.f4.params.toList args.toList ds p:=i;rw[Tryz.params4]at m a;obtain⟨v0,z,x,v3,L,S,O,R,Q,T,N,M,rfl,rfl,rfl,F,D,K,h3⟩:=trodAll_four m;obtain⟨rfl,rfl⟩:=trodVars_none I;obtain⟨E,y,rfl,g⟩:=TZ Tryz.u22 Tryz.u3 Tryz.c3 (FW Tryz.u22 (a 0 22 v0 rfl rfl)) F;obtain⟨s,l1,rfl,k⟩:=TZ Tryz.u22 Tryz.u3 Tryz.c3 (FW Tryz.u22 (a 1 22 z rfl rfl)) D;obtain⟨n2,rfl,rfl,rfl,_⟩:=open_int Tryz.u3 (a 2 3 x rfl rfl) K;obtain⟨G,rfl,rfl,rfl,_⟩:=open_int Tryz.u3 (a 3 3 v3 rfl rfl) h3;refine(Jv E y s l1 n2 G W.heap g k W i4).mono ?_;rintro e P ⟨v,B,l,rfl,J⟩;refine⟨_,B,aeW (rt:=4) i4 f i4 Tryz.laidOut (aeV l J) ?_ j3 Tryz.u4⟩;rw[Tryz.params4];intro t n;simp at n;rcases n with rfl|rfl|rfl|rfl<;>exact⟨j3,i0 j3⟩
theorem OO:Rows.AuditLessSaid:=
 OpenClaim.holds_of_wide 4 Tryz.f4 i4 i4 i4 i4 i4 i4 i4 ⟨i4,i4,i4,i4,i4⟩ i4 i4 i4 i4 i4 j3 Tryz.func4 Ml
  (i0 j3) (by unfold Func.isWrapper;first|(rw[g0 j5];kernel_rfl)|(rw[g9 j5];exact⟨i4,i4⟩))
  (λos a H enc _=>Mm os a H enc)
theorem auditLess_card:Rows.AuditLessCardSaid:=
 Claim7.holds_tied_plain_at .later [] [.data,.pinned] true (true, "76bf5a383c22b4ce29e44b73b2db6234048cec07b285d29570841ffa5b290997") false
  OO (λ_ h=>j9) j3 (λ_ h=>j9) auditLess_row_tie i4 ⟨i4,i4⟩ j3 i4
  (λf g e b=>by
   obtain rfl:f=4:=zR.inj ((show Tryz.prog.funcNamed "wellspring/wellspringlaw35.AuditLess" =some 4 by kernel_rfl).symm.trans e)|>.symm;obtain rfl:g=Tryz.f4:=(zR.inj (Tryz.func4.symm.trans b)).symm;exact⟨j3,λj t c=>by
    rw[Tryz.params4]at c;have d:t∈[22,22,3,3]:=by simpa using Array.mem_of_getElem? c
    have a:([22,22,3,3].all λu=>!Tryz.prog.wantsStandIn u)=true:=j3
    exact(show Tryz.prog.wantsStandIn t=false by simpa using List.all_eq_true.1 a t d)⟩)
  We
end Go.Proofs.YtahcfjokgnjinaaGreatDoor
