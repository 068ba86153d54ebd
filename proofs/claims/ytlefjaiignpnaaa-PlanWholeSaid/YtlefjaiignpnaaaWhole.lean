/- Part of the proofs that wellspringlaw13's laws answer true whatever the input reads, and leave it as it was; no condition. -/
import Derived.Test.YtlefjaiignpnaaaKC
import Derived.Test.YtlefjaiignpnaaaFinA
namespace Go.Proofs.Ytlefjaiignpnaaa
open Go Go.Vc Go.Proofs Go.ChangeShapes Go.WideShapes Go.ChangeAt Go.RowKit Go.Proofs.Ytlefjaiignpnaaa
set_option maxRecDepth 100000 in
theorem planWhole_lifted (os : Os) (started : os.Started) (H : Type) (enc : TypeId × Value → H) :
    ReturnsInHanded {} Try.checked os 4 .any (Rows.planWholeSpec.pre6 enc Try.prog Try.f4 Rows.planWholeRow.domain false) (Rows.planWholeSpec.post enc Try.prog Try.f4 false true false false) := by
  refine returnsInHanded_of_change (C := Try.checked) Try.own started (by kernel_rfl) Try.func4
    (ChangeSpec.witness6 (enc := enc) (C := Try.checked) false ⟨#[], #[.int .i64 0, .slice none 0 0], []⟩ 8 (by kernel_rfl) (by kernel_rfl) (by kernel_rfl) (by kernel_rfl)) ?_
  intro W base args ds gs before hval0 hW hcnd _
  have hval : ∀ (j : Nat) t v, Try.f4.params[j]? = some t → args[j]? = some v → Value.okWide Try.prog W .any base t v := hval0
  have hW' := hW
  obtain ⟨p, q, hA0, hV, rfl, hfz, hnd⟩ := hW
  have hA : DataW.TrodAll enc Try.prog W 0 (fun _ => true) true Try.f4.params.toList args.toList ds p := hA0
  rw [Try.params4] at hA hval
  obtain ⟨v0, v1, d0, d1, p0, p1, rfl, rfl, rfl, h0, h1⟩ := trodAll_two hA
  obtain ⟨rfl, rfl⟩ := trodVars_none hV
  obtain ⟨n0, rfl, rfl, rfl, w0⟩ := open_int Try.u3 (hval 0 3 v0 rfl rfl) h0
  obtain ⟨l, ml, rfl, hl⟩ := seq_ints Try.u23 Try.u3 Try.c3 (okWide_slice' Try.u23 (hval 1 23 v1 rfl rfl)) h1
  refine (planWhole_spec n0 l ml W.heap hl W rfl).mono ?_
  rintro e W' ⟨v, he, hlk, rfl, hp⟩
  refine ⟨_, he, law_post (rt := 4) rfl hW' rfl Try.laidOut (below_of hlk hp) ?_ (by kernel_rfl) Try.u4⟩
  rw [Try.params4]
  intro t ht
  simp at ht
  rcases ht with rfl | rfl <;> exact ⟨by kernel_rfl, of_decide_eq_true (by kernel_rfl)⟩
theorem planWhole_holds : Rows.PlanWholeSaid :=
  OpenClaim.holds_of_wide 4 Try.f4 rfl rfl rfl rfl rfl rfl rfl ⟨rfl, rfl, rfl, rfl, rfl⟩ rfl rfl rfl rfl rfl (by kernel_rfl) Try.func4 (by kernel_rfl)
    (of_decide_eq_true (by kernel_rfl)) (by unfold Func.isWrapper; first | (rw [if_pos (by decide +kernel)]; kernel_rfl) | (rw [if_neg (by decide +kernel)]; exact ⟨rfl, rfl⟩))
    (fun os started H enc _ => planWhole_lifted os started H enc)
end Go.Proofs.Ytlefjaiignpnaaa
