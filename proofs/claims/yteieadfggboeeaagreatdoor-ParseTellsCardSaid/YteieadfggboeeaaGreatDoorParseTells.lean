/- Part of the proofs that the laws of this seat answer true whatever the input reads, and leave it as it was; no condition. -/
import Derived.Test.YteieadfggboeeaaGreatDoorKF
import Derived.Test.YteieadfggboeeaaGreatDoorFinA
import Derived.Test.YteieadfggboeeaaGreatDoorFJ
import Derived.Test.YteieadfggboeeaaGreatDoorFB
import Derived.Test.YteieadfggboeeaaGreatDoorPlO
import Derived.Test.YteieadfggboeeaaGreatDoorTie
import Derived.Test.YteieadfggboeeaaGreatDoorCards
import Derived.SevenTiedAt
set_option linter.unusedVariables false
set_option linter.unusedSimpArgs false
namespace Go.Proofs.YteieadfggboeeaaGreatDoor
open Go Go.Vc Go.Proofs Go.ChangeShapes Go.WideShapes Go.ChangeAt Go.RowKit Go.Qw
set_option maxRecDepth 100000 in
theorem nv (os:Os) (started:os.Started) (H:Type) (enc:TypeId×Value→H):
  ReturnsInHanded {} Tryz.checked os 3 .any (fun w args=>(Rows.parseTellsSpec.pre enc Tryz.prog Tryz.f3 [] false w args∧laidMetH Tryz.prog Tryz.rn w)∧sizedMet enc Tryz.prog Tryz.f3 (OpenSpec.ofChange Rows.parseTellsSpec) false w args) (Rows.parseTellsSpec.post enc Tryz.prog Tryz.f3 false true false false):=by
 refine nj (C:=Tryz.checked) (X:=fun w _=>laidMetH Tryz.prog Tryz.rn w) (fun _ _ _ hh h=>h.of_heap hh) Tryz.own started (by kernel_rfl) Tryz.func3
  (ChangeSpec.witness_shaped (enc:=enc) (C:=Tryz.checked) (os:=os) (X:=fun w _=>laidMetH Tryz.prog Tryz.rn w) false (World.laidAll Tryz.prog os Tryz.rn) #[.string ⟨#[]⟩,.slice none 0 0] 8 (World.laidAll_os _ _ _) (World.shaped_of_ZipB (by kernel_rfl) (by kernel_rfl)) (by kernel_rfl) (by kernel_rfl) (by kernel_rfl)
   (by rw[MakeChecks.laidMetH_plain _ _ _ (by kernel_rfl)];exact laidMet_laidAll _ (by kernel_rfl) (by kernel_rfl))) ?_
 intro W base args ds gs before hval0 hW _ hsh
 have hval:∀(j:Nat) t v,Tryz.f3.params[j]?=some t→args[j]?=some v→Value.okWide Tryz.prog W .any base t v:=hval0
 have hW':=hW
 obtain⟨p,q,hA0,hV,rfl,hfz,hnd⟩:=hW
 have hA:DataW.TrodAll enc Tryz.prog W 0 (fun _=>true) true Tryz.f3.params.toList args.toList ds p:=hA0
 rw[Tryz.params3]at hA hval
 obtain⟨v0,v1,d0,d1,p0,p1,rfl,rfl,rfl,h0,h1⟩:=trodAll_two hA
 obtain⟨rfl,rfl⟩:=trodVars_none hV
 obtain⟨t0,rfl,rfl,rfl,wt0⟩:=Go.ChangeMaps.open_string Tryz.u9 (hval 0 9 v0 rfl rfl) h0
 obtain⟨s1,l1,rfl,hs1⟩:=wL Tryz.Am Tryz.u3 Tryz.c3 (qL Tryz.Am (hval 1 22 v1 rfl rfl)) h1
 refine(lW t0 s1 l1 W.heap hs1 (Tryz.wM.s1_3 W hsh) W rfl).mono ?_
 rintro e W' ⟨v,he,hlk,rfl,hp⟩
 refine⟨_,he,wK (rt:=4) rfl hW' rfl Tryz.laidOut (wJ hlk hp) ?_ (by kernel_rfl) Tryz.u4⟩
 rw[Tryz.params3]
 intro t ht
 simp at ht
 rcases ht with rfl|rfl<;>exact⟨by kernel_rfl,of_decide_eq_true (by kernel_rfl)⟩
theorem ov:Rows.ParseTellsSaid:=
 OpenClaim.holds_of_wide 3 Tryz.f3 rfl rfl rfl rfl rfl rfl rfl ⟨rfl,rfl,rfl,rfl,rfl⟩ rfl rfl rfl rfl rfl (by kernel_rfl) Tryz.func3 nu
  (of_decide_eq_true (by kernel_rfl)) (by unfold Func.isWrapper;first|(rw[if_pos (by decide+kernel)];kernel_rfl)|(rw[if_neg (by decide+kernel)];exact⟨rfl,rfl⟩))
  (fun os started H enc _=>nv os started H enc)
theorem parseTells_card:Rows.ParseTellsCardSaid:=
 Claim7.holds_tied_plain_at .later [] [.data,.data,.data,.data,.sentinel,.sentinel,.pinned] true (true, "11335e635dd82e3291c7f6377017473769e128d04827692f83122272e0bcbccb") true
  ov (fun _ h=>by cases h) (by kernel_rfl) (fun _ h=>by cases h) parseTells_row_tie rfl ⟨rfl,rfl⟩ (by kernel_rfl) rfl
  (fun f fn hf hfn=>by
   obtain rfl:f=3:=Option.some.inj ((show Tryz.prog.funcNamed "wellspring/wellspringlaw34.ParseTells" =some 3 by kernel_rfl).symm.trans hf)|>.symm
   obtain rfl:fn=Tryz.f3:=(Option.some.inj (Tryz.func3.symm.trans hfn)).symm
   exact⟨by kernel_rfl,fun j t ht=>by
    rw[Tryz.params3]at ht
    have hm:t∈[9,22]:=by simpa using Array.mem_of_getElem? ht
    have hall:([9,22].all fun u=>!Tryz.prog.wantsStandIn u)=true:=by kernel_rfl
    exact(show Tryz.prog.wantsStandIn t=false by simpa using List.all_eq_true.1 hall t hm)⟩)
  rf
end Go.Proofs.YteieadfggboeeaaGreatDoor
