/- Part of the proofs that the laws of this seat answer true whatever the input reads, and leave it as it was; no condition. -/
import Derived.Test.YtdhamoojccmbdaaGreatDoorKC
import Derived.Test.YtdhamoojccmbdaaGreatDoorFinA
import Derived.Test.YtdhamoojccmbdaaGreatDoorFJ
import Derived.Test.YtdhamoojccmbdaaGreatDoorFB
import Derived.Test.YtdhamoojccmbdaaGreatDoorTie
import Derived.Test.YtdhamoojccmbdaaGreatDoorCards
import Derived.SevenTiedAt
set_option linter.unusedVariables false
set_option linter.unusedSimpArgs false
namespace Go.Proofs.YtdhamoojccmbdaaGreatDoor
open Go Go.Vc Go.Proofs Go.ChangeShapes Go.WideShapes Go.ChangeAt Go.RowKit Go.Proofs.YtdhamoojccmbdaaGreatDoor
set_option maxRecDepth 100000 in
theorem nI (os:Os) (started:os.Started) (H:Type) (enc:TypeId×Value→H):
  ReturnsInHanded {} Tryz.checked os 6 .any (fun w args=>(Rows.scrubErrorsSpec.pre enc Tryz.prog Tryz.f6 [] false w args∧laidMetH Tryz.prog Tryz.kH w)∧sizedMet enc Tryz.prog Tryz.f6 (OpenSpec.ofChange Rows.scrubErrorsSpec) false w args) (Rows.scrubErrorsSpec.post enc Tryz.prog Tryz.f6 false true false false):=by
 refine returnsInHanded_of_change_and (C:=Tryz.checked) (X:=fun w _=>laidMetH Tryz.prog Tryz.kH w) (fun _ _ _ hh h=>h.of_heap hh) Tryz.own started (by kernel_rfl) Tryz.func6
  (ChangeSpec.witness_shaped (enc:=enc) (C:=Tryz.checked) (os:=os) (X:=fun w _=>laidMetH Tryz.prog Tryz.kH w) false (World.laidAll Tryz.prog os Tryz.kH) #[.slice none 0 0,.int .i64 0,.int .i64 0,.int .i64 0] 8 (World.laidAll_os _ _ _) (World.shaped_of_ZipB (by kernel_rfl) (by kernel_rfl)) (by kernel_rfl) (by kernel_rfl) (by kernel_rfl)
   (by rw[MakeChecks.laidMetH_plain _ _ _ (by kernel_rfl)];exact laidMet_laidAll _ (by kernel_rfl) (by kernel_rfl))) ?_
 intro W base args ds gs before hval0 hW _ _ _ _
 have hval:∀(j:Nat) t v,Tryz.f6.params[j]?=some t→args[j]?=some v→Value.okWide Tryz.prog W .any base t v:=hval0
 have hW':=hW
 obtain⟨p,q,hA0,hV,rfl,hfz,hnd⟩:=hW
 have hA:DataW.TrodAll enc Tryz.prog W 0 (fun _=>true) true Tryz.f6.params.toList args.toList ds p:=hA0
 rw[Tryz.params6]at hA hval
 obtain⟨v0,v1,v2,v3,d0,d1,d2,d3,p0,p1,p2,p3,rfl,rfl,rfl,h0,h1,h2,h3⟩:=trodAll_four hA
 obtain⟨rfl,rfl⟩:=trodVars_none hV
 obtain⟨s0,l0,rfl,hs0⟩:=yT Tryz.BO Tryz.u3 Tryz.c3 (sa Tryz.BO (hval 0 22 v0 rfl rfl)) h0
 obtain⟨n1,rfl,rfl,rfl,_⟩:=open_int Tryz.u3 (hval 1 3 v1 rfl rfl) h1
 obtain⟨n2,rfl,rfl,rfl,_⟩:=open_int Tryz.u3 (hval 2 3 v2 rfl rfl) h2
 obtain⟨n3,rfl,rfl,rfl,_⟩:=open_int Tryz.u3 (hval 3 3 v3 rfl rfl) h3
 refine(l7 s0 l0 n1 n2 n3 W.heap hs0 W rfl).mono ?_
 rintro e W' ⟨v,he,hlk,rfl,hp⟩
 refine⟨_,he,yS (rt:=4) rfl hW' rfl Tryz.laidOut (yR hlk hp) ?_ (by kernel_rfl) Tryz.u4⟩
 rw[Tryz.params6]
 intro t ht
 simp at ht
 rcases ht with rfl|rfl|rfl|rfl<;>exact⟨by kernel_rfl,of_decide_eq_true (by kernel_rfl)⟩
theorem n5:Rows.ScrubErrorsSaid:=
 OpenClaim.holds_of_wide 6 Tryz.f6 rfl rfl rfl rfl rfl rfl rfl ⟨rfl,rfl,rfl,rfl,rfl⟩ rfl rfl rfl rfl rfl (by kernel_rfl) Tryz.func6 nH
  (of_decide_eq_true (by kernel_rfl)) (by unfold Func.isWrapper;first|(rw[if_pos (by decide+kernel)];kernel_rfl)|(rw[if_neg (by decide+kernel)];exact⟨rfl,rfl⟩))
  (fun os started H enc _=>nI os started H enc)
theorem scrubErrors_card:Rows.ScrubErrorsCardSaid:=
 Claim7.holds_tied_plain_at .later [] [.data,.pinned] true (true, "167c4199d85c21f7291b210317a8ee151c131e19c285689909ded0e813ce410f") false
  n5 (fun _ h=>by cases h) (by kernel_rfl) (fun _ h=>by cases h) scrubErrors_row_tie rfl ⟨rfl,rfl⟩ (by kernel_rfl) rfl
  (fun f fn hf hfn=>by
   obtain rfl:f=6:=Option.some.inj ((show Tryz.prog.funcNamed "wellspring/wellspringlaw31.ScrubErrors" =some 6 by kernel_rfl).symm.trans hf)|>.symm
   obtain rfl:fn=Tryz.f6:=(Option.some.inj (Tryz.func6.symm.trans hfn)).symm
   exact⟨by kernel_rfl,fun j t ht=>by
    rw[Tryz.params6]at ht
    have hm:t∈[22,3,3,3]:=by simpa using Array.mem_of_getElem? ht
    have hall:([22,3,3,3].all fun u=>!Tryz.prog.wantsStandIn u)=true:=by kernel_rfl
    exact(show Tryz.prog.wantsStandIn t=false by simpa using List.all_eq_true.1 hall t hm)⟩)
  rq
end Go.Proofs.YtdhamoojccmbdaaGreatDoor
