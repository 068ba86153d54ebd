/- Part of the proofs that the laws of this seat answer true whatever the input reads, and leave it as it was; no condition. -/
import Derived.Test.YtmobnmonkaacaaaGreatDoorDKG
import Derived.Test.YtmobnmonkaacaaaGreatDoorDFJ
import Derived.Test.YtmobnmonkaacaaaGreatDoorDFB
import Derived.Test.YtmobnmonkaacaaaGreatDoorTie
set_option linter.unusedVariables false
set_option linter.unusedSimpArgs false
open Go.Proofs.Tryz renaming prog -> xT
open Go.Value renaming agg -> xO, int -> xJ, slice -> xK, string -> xM
open Go.IntKind renaming i64 -> xP, u32 -> xR
open Option renaming some -> z8
set_option maxRecDepth 100000
namespace Go.Proofs.YtmobnmonkaacaaaGreatDoor
open Go Go.Qw Go.Proofs Go.ChangeShapes Go.WideShapes Go.ChangeAt Go.RowKit
theorem Gt(os:Os)(c:os.Started)(H:Type)(enc:TypeId×Value->H):
  ReturnsInHanded {} Tryz.checked os 5 .any (λw args=>(Rows.storeDownSpec.pre enc xT Tryz.f5 [] false w args/\laidMetH xT Tryz.HQ w)/\sizedMet enc xT Tryz.f5 (OpenSpec.ofChange Rows.storeDownSpec) false w args) (Rows.storeDownSpec.post enc xT Tryz.f5 false true false false):=by
 refine returnsInHanded_of_change_and (C:=Tryz.checked) (X:=λw _=>laidMetH xT Tryz.HQ w) (λ_ _ _ P h=>h.of_heap P) Tryz.own c n9 Tryz.func5
  (ChangeSpec.witness_shaped (enc:=enc) (C:=Tryz.checked) (os:=os) (X:=λw _=>laidMetH xT Tryz.HQ w) false (World.laidAll xT os Tryz.HQ) #[xK none 0 0,xK none 0 0,xJ xP 0,xO #[xJ xP 0,xM ⟨#[]⟩,xK none 0 0,xJ xP 0,xJ xP 0,xJ xP 0,xJ xR 0,xK none 0 0,xK none 0 0]] 8 (World.laidAll_os _ _ _) (World.shaped_of_ZipB n9 n9) n9 n9 n9
   (by rw[MakeChecks.laidMetH_plain _ _ _ n9];exact laidMet_laidAll _ n9 n9)) ?_
 intro W base args Z gs f d x _ _ _ _;have a:∀(j:Nat) t v,Tryz.f5.params[j]?=some t->args[j]?=some v->Value.okWide xT W .any base t v:=d;have m:=x;obtain⟨p,q,g,T,rfl,Q,M⟩:=x;have A:DataW.TrodAll enc xT W 0 (λ_=>true) true Tryz.f5.params.toList args.toList Z p:=g;rw[Tryz.params5]at A a;obtain⟨v0,I,V,v3,d0,d1,d2,d3,p0,p1,p2,p3,rfl,rfl,rfl,D,N,O,h3⟩:=trodAll_four A;obtain⟨rfl,rfl⟩:=trodVars_none T;obtain⟨U,F,rfl,r⟩:=MD Tryz.u22 Tryz.u3 Tryz.c3 (Co Tryz.u22 (a 0 22 v0 rfl rfl)) D;obtain⟨G,l1,rfl,n⟩:=MD Tryz.u22 Tryz.u3 Tryz.c3 (Co Tryz.u22 (a 1 22 I rfl rfl)) N;obtain⟨R,rfl,rfl,rfl,_⟩:=open_int Tryz.u3 (a 2 3 V rfl rfl) O;obtain⟨x3,J,Y,E,rfl,⟨l,o⟩,L,S⟩:=abA (i:=3) (s:=9) (b:=41) (y:=5) (u:=42) (q:=22) (t:=44) n9 n9 n9 n9 n9 n9 n9 n9 n9 n9 n9 n9 n9 (a 3 44 v3 rfl rfl) h3;refine(Ec U F G l1 R x3 W.heap r n J l o W m9).mono ?_;rintro e W' ⟨v,B,k,rfl,K⟩;refine⟨_,B,Yg (rt:=4) m9 m m9 Tryz.laidOut (Yf k K) ?_ n9 Tryz.u4⟩;rw[Tryz.params5];intro t z;simp at z;rcases z with rfl|rfl|rfl|rfl<;>exact⟨n9,m6 n9⟩
theorem Ir:Rows.StoreDownSaid:=
 OpenClaim.holds_of_wide 5 Tryz.f5 m9 m9 m9 m9 m9 m9 m9 ⟨m9,m9,m9,m9,m9⟩ m9 m9 m9 m9 m9 n9 Tryz.func5 Gs
  (m6 n9) (by unfold Func.isWrapper;first|(rw[hZ oi];kernel_rfl)|(rw[k4 oi];exact⟨m9,m9⟩))
  (λos a H enc _=>Gt os a H enc)
theorem storeDown_card:Rows.StoreDownCardSaid:=
 Claim7.holds_tied_plain_at .later [] [.data,.pinned] true (true, "1a80dbfdbea4d5e90381cf5c8489f9be1ecb459bfff508ac61d28bad09aeb325") false
  Ir (λ_ h=>p9) n9 (λ_ h=>p9) storeDown_row_tie m9 ⟨m9,m9⟩ n9 m9
  (λf e g b=>by
   obtain rfl:f=5:=z8.inj ((show Tryz.prog.funcNamed "wellspring/wellspringlaw29.StoreDown" =some 5 by kernel_rfl).symm.trans g)|>.symm;obtain rfl:e=Tryz.f5:=(z8.inj (Tryz.func5.symm.trans b)).symm;exact⟨n9,λj t c=>by
    rw[Tryz.params5]at c;have d:t∈[22,22,3,44]:=by simpa using Array.mem_of_getElem? c
    have a:([22,22,3,44].all λu=>!Tryz.prog.wantsStandIn u)=true:=n9
    exact(show Tryz.prog.wantsStandIn t=false by simpa using List.all_eq_true.1 a t d)⟩)
  Ou
end Go.Proofs.YtmobnmonkaacaaaGreatDoor
