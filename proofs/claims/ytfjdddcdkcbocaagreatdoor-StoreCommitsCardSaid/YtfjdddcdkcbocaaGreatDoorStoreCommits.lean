/- Part of the proofs that the laws of this seat answer true whatever the input reads, and leave it as it was; no condition. -/
import Derived.Test.YtfjdddcdkcbocaaGreatDoorKH
import Derived.Test.YtfjdddcdkcbocaaGreatDoorFJ
import Derived.Test.YtfjdddcdkcbocaaGreatDoorFB
import Derived.Test.YtfjdddcdkcbocaaGreatDoorTie
set_option linter.unusedVariables false
set_option linter.unusedSimpArgs false
open Go.Proofs.Tryz renaming prog -> xZ
open Go.Value renaming agg -> xU, int -> xP, slice -> xQ
open Go.IntKind renaming i64 -> xV
open Option renaming some -> wm
set_option maxRecDepth 100000
namespace Go.Proofs.YtfjdddcdkcbocaaGreatDoor
open Go Go.Qw Go.Proofs Go.ChangeShapes Go.WideShapes Go.ChangeAt Go.RowKit
theorem Ch(os:Os)(b:os.Started)(H:Type)(enc:TypeId×Value->H):
  ReturnsInHanded {} Tryz.checked os 3 .any (λw args=>(Rows.storeCommitsSpec.pre enc xZ Tryz.f3 [] false w args/\laidMetH xZ Tryz.Hw w)/\sizedMet enc xZ Tryz.f3 (OpenSpec.ofChange Rows.storeCommitsSpec) false w args) (Rows.storeCommitsSpec.post enc xZ Tryz.f3 false true false false):=by
 refine returnsInHanded_of_change_and (C:=Tryz.checked) (X:=λw _=>laidMetH xZ Tryz.Hw w) (λ_ _ _ I h=>h.of_heap I) Tryz.own b o0 Tryz.func3
  (ChangeSpec.witness_shaped (enc:=enc) (C:=Tryz.checked) (os:=os) (X:=λw _=>laidMetH xZ Tryz.Hw w) false (World.laidAll xZ os Tryz.Hw) #[xQ none 0 0,xQ none 0 0,xQ none 0 0,xU #[xP xV 0,xP xV 0,xP xV 0,xP xV 0,xP xV 0,xP xV 0,xQ none 0 0,xQ none 0 0],xP xV 0,xP xV 0,xP xV 0] 8 (World.laidAll_os _ _ _) (World.shaped_of_ZipB o0 o0) o0 o0 o0
   (by rw[MakeChecks.laidMetH_plain _ _ _ o0];exact laidMet_laidAll _ o0 o0)) ?_
 intro W base args A gs d c r _ _ _ _;have a:∀(j:Nat) t v,Tryz.f3.params[j]?=some t->args[j]?=some v->Value.okWide xZ W .any base t v:=c;have m:=r;obtain⟨p,q,o,M,rfl,G,V⟩:=r;have u:DataW.TrodAll enc xZ W 0 (λ_=>true) true Tryz.f3.params.toList args.toList A p:=o;rw[Tryz.params3]at u a;obtain⟨v0,Y,L,v3,v4,v5,B,d0,d1,d2,d3,d4,d5,d6,p0,p1,p2,p3,p4,p5,p6,rfl,rfl,rfl,S,E,K,h3,T,z,Q⟩:=Kw u;obtain⟨rfl,rfl⟩:=trodVars_none M;obtain⟨P,D,rfl,n⟩:=FK Tryz.QN Tryz.u3 Tryz.c3 (sf Tryz.QN (a 0 22 v0 rfl rfl)) S;obtain⟨Z,l1,rfl,l⟩:=FK Tryz.QN Tryz.u3 Tryz.c3 (sf Tryz.QN (a 1 22 Y rfl rfl)) E;obtain⟨y,l2,rfl,k⟩:=FK Tryz.QN Tryz.u3 Tryz.c3 (sf Tryz.QN (a 2 22 L rfl rfl)) K;obtain⟨x3,U,rfl,f⟩:=WD (i:=3) (s:=9) (q:=22) (pm:=24) (es:=25) (en:=59) (t:=27) o0 o0 o0 o0 o0 o0 o0 o0 o0 o0 o0 o0 o0 (a 3 27 v3 rfl rfl) h3;obtain⟨O,rfl,rfl,rfl,_⟩:=open_int Tryz.u3 (a 4 3 v4 rfl rfl) T;obtain⟨N,rfl,rfl,rfl,_⟩:=open_int Tryz.u3 (a 5 3 v5 rfl rfl) z;obtain⟨J,rfl,rfl,rfl,_⟩:=open_int Tryz.u3 (a 6 3 B rfl rfl) Q;refine(AL P D Z l1 y l2 x3 U O N J W.heap n l k f W n2).mono ?_;rintro e W' ⟨v,F,g,rfl,R⟩;refine⟨_,F,XF (rt:=4) n2 m n2 Tryz.laidOut (XE g R) ?_ o0 Tryz.u4⟩;rw[Tryz.params3];intro t x;simp at x;rcases x with rfl|rfl|rfl|rfl|rfl|rfl|rfl<;>exact⟨o0,nq o0⟩
theorem DR:Rows.StoreCommitsSaid:=
 OpenClaim.holds_of_wide 3 Tryz.f3 n2 n2 n2 n2 n2 n2 n2 ⟨n2,n2,n2,n2,n2⟩ n2 n2 n2 n2 n2 o0 Tryz.func3 Cg
  (nq o0) (by unfold Func.isWrapper;first|(rw[l0 o1];kernel_rfl)|(rw[m6 o1];exact⟨n2,n2⟩))
  (λos a H enc _=>Ch os a H enc)
theorem storeCommits_card:Rows.StoreCommitsCardSaid:=
 Claim7.holds_tied_plain_at .later [] [.data,.pinned] true (true, "09392a55e0aca3dfae4c67526f098059c9773550f2c3141aa208cb2cd2c79488") false
  DR (λ_ h=>t7) o0 (λ_ h=>t7) storeCommits_row_tie n2 ⟨n2,n2⟩ o0 n2
  (λf d g b=>by
   obtain rfl:f=3:=wm.inj ((show Tryz.prog.funcNamed "wellspring/wellspringlaw29.StoreCommits" =some 3 by kernel_rfl).symm.trans g)|>.symm;obtain rfl:d=Tryz.f3:=(wm.inj (Tryz.func3.symm.trans b)).symm;exact⟨o0,λj t c=>by
    rw[Tryz.params3]at c;have e:t∈[22,22,22,27,3,3,3]:=by simpa using Array.mem_of_getElem? c
    have a:([22,22,22,27,3,3,3].all λu=>!Tryz.prog.wantsStandIn u)=true:=o0
    exact(show Tryz.prog.wantsStandIn t=false by simpa using List.all_eq_true.1 a t e)⟩)
  Ig
end Go.Proofs.YtfjdddcdkcbocaaGreatDoor
