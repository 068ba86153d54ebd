/- Part of the proofs that the laws of this seat answer true whatever the input reads, and leave it as it was; no condition. -/
import Derived.Test.YtmobnmonkaacaaaGreatDoorKG
import Derived.Test.YtmobnmonkaacaaaGreatDoorFJ
import Derived.Test.YtmobnmonkaacaaaGreatDoorFB
import Derived.Test.YtmobnmonkaacaaaGreatDoorTie
set_option linter.unusedVariables false
set_option linter.unusedSimpArgs false
open Go.Proofs.Tryz renaming prog -> xR
open Go.Value renaming int -> xH, slice -> xI, string -> xK
open Go.IntKind renaming i64 -> xN
open Option renaming some -> wb
set_option maxRecDepth 100000
namespace Go.Proofs.YtmobnmonkaacaaaGreatDoor
open Go Go.Qw Go.Proofs Go.ChangeShapes Go.WideShapes Go.ChangeAt Go.RowKit
theorem Ey(os:Os)(b:os.Started)(H:Type)(enc:TypeId×Value->H):
  ReturnsInHanded {} Tryz.checked os 4 .any (λw args=>(Rows.storePlaysSpec.pre enc xR Tryz.f4 [] false w args/\laidMetH xR Tryz.Ht w)/\sizedMet enc xR Tryz.f4 (OpenSpec.ofChange Rows.storePlaysSpec) false w args) (Rows.storePlaysSpec.post enc xR Tryz.f4 false true false false):=by
 refine returnsInHanded_of_change_and (C:=Tryz.checked) (X:=λw _=>laidMetH xR Tryz.Ht w) (λ_ _ _ K h=>h.of_heap K) Tryz.own b o5 Tryz.func4
  (ChangeSpec.witness_shaped (enc:=enc) (C:=Tryz.checked) (os:=os) (X:=λw _=>laidMetH xR Tryz.Ht w) false (World.laidAll xR os Tryz.Ht) #[xI none 0 0,xI none 0 0,xK ⟨#[]⟩,xI none 0 0,xH xN 0,xH xN 0] 8 (World.laidAll_os _ _ _) (World.shaped_of_ZipB o5 o5) o5 o5 o5
   (by rw[MakeChecks.laidMetH_plain _ _ _ o5];exact laidMet_laidAll _ o5 o5)) ?_
 intro W base args S V d c r _ _ _ _;have a:∀(j:Nat) t v,Tryz.f4.params[j]?=some t->args[j]?=some v->Value.okWide xR W .any base t v:=c;have l:=r;obtain⟨p,q,i,O,rfl,L,D⟩:=r;have o:DataW.TrodAll enc xR W 0 (λ_=>true) true Tryz.f4.params.toList args.toList S p:=i;rw[Tryz.params4]at o a;obtain⟨v0,B,F,v3,v4,v5,d0,d1,d2,Y,d4,d5,p0,p1,p2,p3,Z,p5,rfl,rfl,rfl,M,R,z,h3,A,Q⟩:=Oc o;obtain⟨rfl,rfl⟩:=trodVars_none O;obtain⟨P,u,rfl,n⟩:=Mj Tryz.ZG Tryz.u3 Tryz.c3 (se Tryz.ZG (a 0 22 v0 rfl rfl)) M;obtain⟨N,l1,rfl,f⟩:=Mj Tryz.ZG Tryz.u3 Tryz.c3 (se Tryz.ZG (a 1 22 B rfl rfl)) R;obtain⟨T,rfl,rfl,rfl,E⟩:=Go.ChangeMaps.open_string Tryz.u9 (a 2 9 F rfl rfl) z;obtain⟨G,x,rfl,g,k⟩:=Uu Tryz.u41 Tryz.u5 Tryz.c5 (se Tryz.u41 (a 3 41 v3 rfl rfl)) h3;obtain⟨I,rfl,rfl,rfl,_⟩:=open_int Tryz.u3 (a 4 3 v4 rfl rfl) A;obtain⟨y,rfl,rfl,rfl,_⟩:=open_int Tryz.u3 (a 5 3 v5 rfl rfl) Q;refine(BY P u N l1 T G x I y W.heap n f g k W n5).mono ?_;rintro e W' ⟨v,J,m,rfl,U⟩;refine⟨_,J,Xt (rt:=4) n5 l n5 Tryz.laidOut (Xs m U) ?_ o5 Tryz.u4⟩;rw[Tryz.params4];intro t s;simp at s;rcases s with rfl|rfl|rfl|rfl|rfl|rfl<;>exact⟨o5,n3 o5⟩
theorem FZ:Rows.StorePlaysSaid:=
 OpenClaim.holds_of_wide 4 Tryz.f4 n5 n5 n5 n5 n5 n5 n5 ⟨n5,n5,n5,n5,n5⟩ n5 n5 n5 n5 n5 o5 Tryz.func4 Ex
  (n3 o5) (by unfold Func.isWrapper;first|(rw[m6 o6];kernel_rfl)|(rw[nq o6];exact⟨n5,n5⟩))
  (λos a H enc _=>Ey os a H enc)
theorem storePlays_card:Rows.StorePlaysCardSaid:=
 Claim7.holds_tied_plain_at .later [] [.data,.pinned] true (true, "1a80dbfdbea4d5e90381cf5c8489f9be1ecb459bfff508ac61d28bad09aeb325") false
  FZ (λ_ h=>t7) o5 (λ_ h=>t7) storePlays_row_tie n5 ⟨n5,n5⟩ o5 n5
  (λf e d b=>by
   obtain rfl:f=4:=wb.inj ((show Tryz.prog.funcNamed "wellspring/wellspringlaw29.StorePlays" =some 4 by kernel_rfl).symm.trans d)|>.symm;obtain rfl:e=Tryz.f4:=(wb.inj (Tryz.func4.symm.trans b)).symm;exact⟨o5,λj t c=>by
    rw[Tryz.params4]at c;have g:t∈[22,22,9,41,3,3]:=by simpa using Array.mem_of_getElem? c
    have a:([22,22,9,41,3,3].all λu=>!Tryz.prog.wantsStandIn u)=true:=o5
    exact(show Tryz.prog.wantsStandIn t=false by simpa using List.all_eq_true.1 a t g)⟩)
  KL
end Go.Proofs.YtmobnmonkaacaaaGreatDoor
