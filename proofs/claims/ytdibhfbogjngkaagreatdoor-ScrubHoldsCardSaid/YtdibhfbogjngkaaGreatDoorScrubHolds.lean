/- Part of the proofs that the laws of this seat answer true whatever the input reads, and leave it as it was; no condition. -/
import Derived.Test.YtdibhfbogjngkaaGreatDoorKE
import Derived.Test.YtdibhfbogjngkaaGreatDoorFJ
import Derived.Test.YtdibhfbogjngkaaGreatDoorFB
import Derived.Test.YtdibhfbogjngkaaGreatDoorTie
set_option linter.unusedVariables false
set_option linter.unusedSimpArgs false
open Go.Proofs.Tryz renaming prog -> xB
open Go.Value renaming int -> xq, slice -> xr
open Go.IntKind renaming i64 -> xx
open Option renaming some -> zR
set_option maxRecDepth 100000
namespace Go.Proofs.YtdibhfbogjngkaaGreatDoor
open Go Go.Vc Go.Proofs Go.ChangeShapes Go.WideShapes Go.ChangeAt Go.RowKit Go.Qw
theorem Kc(os:Os)(b:os.Started)(H:Type)(enc:TypeId×Value->H):
  ReturnsInHanded {} Tryz.checked os 6 .any (λw args=>(Rows.scrubHoldsSpec.pre enc xB Tryz.f6 [] false w args/\laidMetH xB Tryz.eI w)/\sizedMet enc xB Tryz.f6 (OpenSpec.ofChange Rows.scrubHoldsSpec) false w args) (Rows.scrubHoldsSpec.post enc xB Tryz.f6 false true false false):=by
 refine returnsInHanded_of_change_and (C:=Tryz.checked) (X:=λw _=>laidMetH xB Tryz.eI w) (λ_ _ _ G h=>h.of_heap G) Tryz.own b j1 Tryz.func6
  (ChangeSpec.witness_shaped (enc:=enc) (C:=Tryz.checked) (os:=os) (X:=λw _=>laidMetH xB Tryz.eI w) false (World.laidAll xB os Tryz.eI) #[xr none 0 0,xr none 0 0,xq xx 0,xq xx 0] 8 (World.laidAll_os _ _ _) (World.shaped_of_ZipB j1 j1) j1 j1 j1
   (by rw[MakeChecks.laidMetH_plain _ _ _ j1];exact laidMet_laidAll _ j1 j1)) ?_
 intro W base args ds P d c m _ _ _ _;have a:∀(j:Nat) t v,Tryz.f6.params[j]?=some t->args[j]?=some v->Value.okWide xB W .any base t v:=c;have l:=m;obtain⟨p,q,g,F,rfl,y,s⟩:=m;have n:DataW.TrodAll enc xB W 0 (λ_=>true) true Tryz.f6.params.toList args.toList ds p:=g;rw[Tryz.params6]at n a;obtain⟨v0,I,J,v3,O,U,T,R,S,N,Q,L,rfl,rfl,rfl,K,z,x,h3⟩:=trodAll_four n;obtain⟨rfl,rfl⟩:=trodVars_none F;obtain⟨r,D,rfl,f⟩:=TS Tryz.u22 Tryz.u3 Tryz.c3 (FP Tryz.u22 (a 0 22 v0 rfl rfl)) K;obtain⟨E,l1,rfl,k⟩:=TS Tryz.u22 Tryz.u3 Tryz.c3 (FP Tryz.u22 (a 1 22 I rfl rfl)) z;obtain⟨n2,rfl,rfl,rfl,_⟩:=open_int Tryz.u3 (a 2 3 J rfl rfl) x;obtain⟨u,rfl,rfl,rfl,_⟩:=open_int Tryz.u3 (a 3 3 v3 rfl rfl) h3;refine(GJ r D E l1 n2 u W.heap f k W i0).mono ?_;rintro e M ⟨v,B,i,rfl,A⟩;refine⟨_,B,aeH (rt:=4) i0 l i0 Tryz.laidOut (aeG i A) ?_ j1 Tryz.u4⟩;rw[Tryz.params6];intro t o;simp at o;rcases o with rfl|rfl|rfl|rfl<;>exact⟨j1,hZ j1⟩
theorem Mi:Rows.ScrubHoldsSaid:=
 OpenClaim.holds_of_wide 6 Tryz.f6 i0 i0 i0 i0 i0 i0 i0 ⟨i0,i0,i0,i0,i0⟩ i0 i0 i0 i0 i0 j1 Tryz.func6 Kb
  (hZ j1) (by unfold Func.isWrapper;first|(rw[f9 j4];kernel_rfl)|(rw[g0 j4];exact⟨i0,i0⟩))
  (λos a H enc _=>Kc os a H enc)
theorem scrubHolds_card:Rows.ScrubHoldsCardSaid:=
 Claim7.holds_tied_plain_at .later [] [.data,.pinned] true (true, "7434f311fcca4b33a11ffad87edc1dec4ba5a810175aab90b4607b77ccaab257") false
  Mi (λ_ h=>j6) j1 (λ_ h=>j6) scrubHolds_row_tie i0 ⟨i0,i0⟩ j1 i0
  (λf g d b=>by
   obtain rfl:f=6:=zR.inj ((show Tryz.prog.funcNamed "wellspring/wellspringlaw31.ScrubHolds" =some 6 by kernel_rfl).symm.trans d)|>.symm;obtain rfl:g=Tryz.f6:=(zR.inj (Tryz.func6.symm.trans b)).symm;exact⟨j1,λj t c=>by
    rw[Tryz.params6]at c;have e:t∈[22,22,3,3]:=by simpa using Array.mem_of_getElem? c
    have a:([22,22,3,3].all λu=>!Tryz.prog.wantsStandIn u)=true:=j1
    exact(show Tryz.prog.wantsStandIn t=false by simpa using List.all_eq_true.1 a t e)⟩)
  Sw
end Go.Proofs.YtdibhfbogjngkaaGreatDoor
