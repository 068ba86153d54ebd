/- Part of the proofs that wellspringlaw14's laws answer true whatever the input reads, and leave it as it was; no condition. -/
import Derived.Test.YtkcplnfomahleaaGreatDoorKX
import Derived.Test.YtkcplnfomahleaaGreatDoorFinA
import Derived.Test.YtkcplnfomahleaaGreatDoorTie
import Derived.Test.YtkcplnfomahleaaGreatDoorCards
import Derived.SevenTiedAt
set_option linter.unusedVariables false
set_option linter.unusedSimpArgs false
namespace Go.Proofs.YtkcplnfomahleaaGreatDoor
open Go Go.Vc Go.Proofs Go.ChangeShapes Go.WideShapes Go.ChangeAt Go.RowKit Go.Proofs.YtkcplnfomahleaaGreatDoor
set_option maxRecDepth 100000 in
theorem decoderPlays_lifted (os : Os) (started : os.Started) (H : Type) (enc : TypeId × Value → H) :
    ReturnsInHanded {} Tryz.checked os 8 .any (fun w args => (Rows.decoderPlaysSpec.pre enc Tryz.prog Tryz.f8 [] false w args ∧ laidMetH Tryz.prog Tryz.laidD w) ∧ sizedMet enc Tryz.prog Tryz.f8 (OpenSpec.ofChange Rows.decoderPlaysSpec) false w args) (Rows.decoderPlaysSpec.post enc Tryz.prog Tryz.f8 false true false false) := by
  refine returnsInHanded_of_change_and (C := Tryz.checked) (X := fun w _ => laidMetH Tryz.prog Tryz.laidD w) (fun _ _ _ hh h => h.of_heap hh) Tryz.own started (by kernel_rfl) Tryz.func8
    (ChangeSpec.witness_shaped (enc := enc) (C := Tryz.checked) (os := os) (X := fun w _ => laidMetH Tryz.prog Tryz.laidD w) false (World.laidAll Tryz.prog os Tryz.laidD) #[.agg #[.int .i64 0, .int .i64 0, .int .i64 0], .int .i64 0, .int .i64 0, .int .i64 0, .int .u64 0, .slice none 0 0, .slice none 0 0, .agg #[.int .i64 0, .slice none 0 0], .int .i64 0] 8 (World.laidAll_os _ _ _) (World.shaped_of_ZipB (by kernel_rfl) (by kernel_rfl)) (by kernel_rfl) (by kernel_rfl) (by kernel_rfl)
      (by rw [MakeChecks.laidMetH_plain _ _ _ (by kernel_rfl)]; exact laidMet_laidAll _ (by kernel_rfl) (by kernel_rfl))) ?_
  intro W base args ds gs before hval0 hW _ _ _ _
  have hval : ∀ (j : Nat) t v, Tryz.f8.params[j]? = some t → args[j]? = some v → Value.okWide Tryz.prog W .any base t v := hval0
  have hW' := hW
  obtain ⟨p, q, hA0, hV, rfl, hfz, hnd⟩ := hW
  have hA : DataW.TrodAll enc Tryz.prog W 0 (fun _ => true) true Tryz.f8.params.toList args.toList ds p := hA0
  rw [Tryz.params8] at hA hval
  obtain ⟨v0, v1, v2, v3, v4, v5, v6, v7, v8, d0, d1, d2, d3, d4, d5, d6, d7, d8, p0, p1, p2, p3, p4, p5, p6, p7, p8, rfl, rfl, rfl, h0, h1, h2, h3, h4, h5, h6, h7, h8⟩ := trodAll_nine hA
  obtain ⟨rfl, rfl⟩ := trodVars_none hV
  obtain ⟨x0, y0, z0, rfl⟩ := open_int3 (t := 25) (by kernel_rfl) (hval 0 25 v0 rfl rfl) h0
  obtain ⟨n1, rfl, rfl, rfl, _⟩ := open_int Tryz.u3 (hval 1 3 v1 rfl rfl) h1
  obtain ⟨n2, rfl, rfl, rfl, _⟩ := open_int Tryz.u3 (hval 2 3 v2 rfl rfl) h2
  obtain ⟨n3, rfl, rfl, rfl, _⟩ := open_int Tryz.u3 (hval 3 3 v3 rfl rfl) h3
  obtain ⟨n4, rfl, rfl, rfl, wn4⟩ := open_int Tryz.u22 (hval 4 22 v4 rfl rfl) h4
  obtain ⟨s5, l5, rfl, hs5, hc5⟩ := seq_bytes Tryz.u23 Tryz.u5 Tryz.c5 (okWide_slice' Tryz.u23 (hval 5 23 v5 rfl rfl)) h5
  obtain ⟨s6, l6, rfl, hs6⟩ := seq_ints Tryz.u41 Tryz.u3 Tryz.c3 (okWide_slice' Tryz.u41 (hval 6 41 v6 rfl rfl)) h6
  obtain ⟨n7, x7, l7, rfl, hx7⟩ := open_sym (t := 35) (s := 23) (e := 5) (by kernel_rfl) Tryz.u23 Tryz.u5 Tryz.c5 (hval 7 35 v7 rfl rfl) h7
  obtain ⟨n8, rfl, rfl, rfl, _⟩ := open_int Tryz.u3 (hval 8 3 v8 rfl rfl) h8
  refine (plays_law (x0, y0, z0) n1 n2 n3 n4 s5 l5 s6 l6 (n7, x7) l7 n8 W.heap hs5 hs6 hx7 W rfl).mono ?_
  rintro e W' ⟨v, he, hlk, rfl, hp⟩
  refine ⟨_, he, law_post (rt := 4) rfl hW' rfl Tryz.laidOut (below_of hlk hp) ?_ (by kernel_rfl) Tryz.u4⟩
  rw [Tryz.params8]
  intro t ht
  simp at ht
  rcases ht with rfl | rfl | rfl | rfl | rfl | rfl | rfl | rfl | rfl <;> exact ⟨by kernel_rfl, of_decide_eq_true (by kernel_rfl)⟩
theorem decoderPlays_holds : Rows.DecoderPlaysSaid :=
  OpenClaim.holds_of_wide 8 Tryz.f8 rfl rfl rfl rfl rfl rfl rfl ⟨rfl, rfl, rfl, rfl, rfl⟩ rfl rfl rfl rfl rfl (by kernel_rfl) Tryz.func8 (by kernel_rfl)
    (of_decide_eq_true (by kernel_rfl)) (by unfold Func.isWrapper; first | (rw [if_pos (by decide +kernel)]; kernel_rfl) | (rw [if_neg (by decide +kernel)]; exact ⟨rfl, rfl⟩))
    (fun os started H enc _ => decoderPlays_lifted os started H enc)
theorem decoderPlays_card : Rows.DecoderPlaysCardSaid :=
  Claim7.holds_tied_plain_at .later [] [.data, .pinned] true (true, "4b912050e82a90d5ed1b103082777e1f95bc9dab3783069c5815b93163a6e33f") false
    decoderPlays_holds (fun _ h => by cases h) (by kernel_rfl) (fun _ h => by cases h) decoderPlays_row_tie rfl ⟨rfl, rfl⟩ (by kernel_rfl) rfl
    (fun f fn hf hfn => by
      obtain rfl : f = 8 := Option.some.inj ((show Tryz.prog.funcNamed "wellspring/wellspringlaw14.DecoderPlays" = some 8 by kernel_rfl).symm.trans hf) |>.symm
      obtain rfl : fn = Tryz.f8 := (Option.some.inj (Tryz.func8.symm.trans hfn)).symm
      exact ⟨by kernel_rfl, fun j t ht => by
        rw [Tryz.params8] at ht
        have hm : t ∈ [25, 3, 3, 3, 22, 23, 41, 35, 3] := by simpa using Array.mem_of_getElem? ht
        have hall : ([25, 3, 3, 3, 22, 23, 41, 35, 3].all fun u => !Tryz.prog.wantsStandIn u) = true := by kernel_rfl
        exact (show Tryz.prog.wantsStandIn t = false by simpa using List.all_eq_true.1 hall t hm)⟩)
    (by kernel_rfl)
end Go.Proofs.YtkcplnfomahleaaGreatDoor
