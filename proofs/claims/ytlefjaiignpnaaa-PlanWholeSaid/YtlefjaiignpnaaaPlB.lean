/- Part of the proofs that wellspringlaw13's laws answer true whatever the input reads, and leave it as it was; no condition. -/
import Derived.Test.YtlefjaiignpnaaaPlA
namespace Wl
/-! What any plan keeps. -/
/-- Steps that may be told one after the other: D what is known, U which rows are gone. -/
def goodSteps (rows : List (List Int)) : (Int → Prop) → (Int → Prop) → List (Int × Int) → Prop
  | _, _, [] => True
  | D, U, (i, c) :: t => (0 ≤ i ∧ i < rows.length) ∧ ¬ U i ∧ ¬ D c ∧ c ∈ rows.getD i.toNat [] ∧ (∀ c' ∈ rows.getD i.toNat [], c' ≠ c → D c') ∧ goodSteps rows (fun x => D x ∨ x = c) (fun x => U x ∨ x = i) t
def opn0 (op : List Bool) (c : Int) : Prop := 0 ≤ c ∧ opn op c = true
theorem opn_lt {op : List Bool} {c : Int} (h : opn op c = true) : c.toNat < op.length := by
  by_cases hl : c.toNat < op.length
  · exact hl
  · unfold opn at h; rw [List.getD_eq_getElem?_getD, List.getElem?_eq_none (by omega)] at h; cases h
theorem opn_set {op : List Bool} {c d : Int} (hc : 0 ≤ c) (hd : 0 ≤ d) : opn op c = true → c ≠ d → opn (op.set d.toNat false) c = true := by
  intro h hne
  unfold opn
  rw [getD_setb, if_neg (fun hh => hne (by omega))]
  exact h
theorem opn_set_no {op : List Bool} {d : Int} (h : opn op d = true) : opn (op.set d.toNat false) d = false := by
  unfold opn
  rw [getD_setb, if_pos ⟨rfl, opn_lt h⟩]
/-- What the run of a plan gives, from a state on. -/
structure RunOk (rows : List (List Int)) (op us : List Bool) (r : Pl) : Prop where
  cols : r.steps.length + r.dead.length = op.count true
  used : r.used.count true = us.count true + r.steps.length
  keepU : ∀ i, us.getD i false = true → r.used.getD i false = true
  dead : ∀ c ∈ r.dead, opn0 op c
  deadN : r.dead.Nodup
  good : ∀ D U : Int → Prop, (∀ c : Int, 0 ≤ c → c < op.length → (D c ↔ opn op c = false ∨ c ∈ r.dead)) → (∀ i : Nat, i < rows.length → (U i ↔ us.getD i false = true ∨ r.used.getD i false = false)) → goodSteps rows D U r.steps
theorem used_cnt {us : List Bool} {i : Nat} (h : us.getD i false = false) (hi : i < us.length) : (us.set i true).count true = us.count true + 1 := by
  have e : us[i] = false := by rw [List.getD_eq_getElem?_getD, List.getElem?_eq_getElem hi] at h; exact h
  rw [List.count_set hi, e]; simp
theorem run_ok {rows : List (List Int)} {n : Nat} (hrows : ∀ r ∈ rows, ∀ c ∈ r, 0 ≤ c ∧ c < n) : ∀ k op us, op.length = n → us.length = rows.length → op.count true = k → RunOk rows op us (planRun rows k op us)
  | 0, op, us, hl, hul, hc => ⟨by simp [planRun, hc], by simp [planRun], fun i h => h, fun c h => by simp [planRun] at h, by simp [planRun], fun _ _ _ _ => trivial⟩
  | k + 1, op, us, hl, hul, hc => by
    have hct := contains_of_count hc
    cases hst : stepL rows op us with
    | some i =>
      obtain ⟨hil, hti⟩ := step_tells hst
      obtain ⟨h1, h2, h3⟩ := col_open hti
      have hrowi : rows.getD i [] = rows[i] := by rw [List.getD_eq_getElem?_getD, List.getElem?_eq_getElem hil]; rfl
      have hcr := hrows _ (List.getElem_mem hil) _ (hrowi ▸ h2)
      have hcc := count_close (op := op) (j := (colOf rows op i).toNat) h3
      have hui : us.getD i false = false := by
        simp only [tells, Bool.and_eq_true, Bool.not_eq_true'] at hti
        exact hti.1
      have huc := used_cnt hui (by omega)
      have ih := run_ok hrows k (op.set (colOf rows op i).toNat false) (us.set i true) (by simp [hl]) (by simp [hul]) (by omega)
      rw [plan_step hct hst]
      generalize planRun rows k (op.set (colOf rows op i).toNat false) (us.set i true) = r at ih
      generalize hcol : colOf rows op i = c at *
      have hri : r.used.getD i false = true := ih.keepU i (by rw [getD_setb, if_pos ⟨rfl, by omega⟩])
      have hcd : c ∉ r.dead := fun h => by
        have := (ih.dead c h).2
        rw [opn_set_no h3] at this; cases this
      refine ⟨by simp only [List.length_cons]; have := ih.cols; omega, by simp only [List.length_cons]; have := ih.used; omega, fun j hj => ih.keepU j (by rw [getD_setb]; split; rfl; exact hj), fun d hd => ⟨(ih.dead d hd).1, (open_close (ih.dead d hd).2).1⟩, ih.deadN, fun D U hD hU => ?_⟩
      have hri' : rows.getD ((i : Int)).toNat [] = rows.getD i [] := by rw [Int.toNat_natCast]
      refine ⟨by omega, ?_, ?_, by rw [hri']; exact h2, ?_, ?_⟩
      · rw [hU i hil, hui, hri]; simp
      · rw [hD c hcr.1 (by omega), h3]; simp [hcd]
      · intro c' hc' hne
        rw [hri'] at hc'
        have hr' := hrows _ (List.getElem_mem hil) _ (hrowi ▸ hc')
        refine (hD c' hr'.1 (by omega)).2 (.inl ?_)
        cases ho : opn op c' with
        | false => rfl
        | true =>
          have : c' ∈ openCols op (rows.getD i []) := by rw [openCols, List.mem_filter]; exact ⟨hc', ho⟩
          rw [h1] at this
          simp at this
          exact absurd this hne
      · refine ih.good _ _ (fun d hd0 hdn => ?_) (fun j hj => ?_)
        · simp only [List.length_set] at hdn
          rw [hD d hd0 hdn]
          by_cases e : d = c
          · subst e
            simp [opn_set_no h3]
          · cases ho : opn op d with
            | true => rw [opn_set hd0 hcr.1 ho e]; simp [e]
            | false =>
              have : opn (op.set c.toNat false) d = false := by
                cases hh : opn (op.set c.toNat false) d with
                | false => rfl
                | true => rw [(open_close hh).1] at ho; cases ho
              rw [this]; simp
        · rw [hU j hj, getD_setb]
          by_cases e : i = j
          · subst e
            simp [hul, hil]
          · have e2 : ¬ ((j : Int) = (i : Int)) := fun h => e (by omega)
            simp [e, e2]
    | none =>
      obtain ⟨m1, m2, m3⟩ := most_open (rows := rows) (us := us) hct
      have hcc := count_close (op := op) (j := (mostL rows op us).toNat) m3
      have ih := run_ok hrows k (op.set (mostL rows op us).toNat false) us (by simp [hl]) hul (by omega)
      rw [plan_dead hct hst]
      generalize planRun rows k (op.set (mostL rows op us).toNat false) us = r at ih
      generalize mostL rows op us = c at *
      have h3 : opn op c = true := m3
      have hcd : c ∉ r.dead := fun h => by
        have := (ih.dead c h).2
        rw [opn_set_no h3] at this; cases this
      refine ⟨by simp only [List.length_cons]; have := ih.cols; omega, ih.used, ih.keepU, fun d hd => ?_, by simp only [List.nodup_cons]; exact ⟨hcd, ih.deadN⟩, fun D U hD hU => ?_⟩
      · rcases List.mem_cons.1 hd with rfl | hd
        · exact ⟨m1, h3⟩
        · exact ⟨(ih.dead d hd).1, (open_close (ih.dead d hd).2).1⟩
      · refine ih.good D U (fun d hd0 hdn => ?_) hU
        simp only [List.length_set] at hdn
        rw [hD d hd0 hdn]
        by_cases e : d = c
        · subst e
          simp [opn_set_no h3]
        · have : opn (op.set c.toNat false) d = opn op d := by
            cases ho : opn op d with
            | true => exact opn_set hd0 m1 ho e
            | false =>
              cases hh : opn (op.set c.toNat false) d with
              | false => rfl
              | true => rw [(open_close hh).1] at ho; cases ho
          rw [this]; simp [e]
theorem left_mem (us : List Bool) : ∀ k (c : Int), c ∈ leftL us k ↔ ∃ j : Nat, c = j ∧ j < k ∧ us.getD j false = false
  | 0, c => by simp [leftL]
  | k + 1, c => by
    have ih := left_mem us k c
    unfold leftL
    cases h : us.getD k false with
    | true =>
      simp only [if_true]
      rw [ih]
      constructor
      · rintro ⟨j, a, b, d⟩; exact ⟨j, a, by omega, d⟩
      · rintro ⟨j, a, b, d⟩
        refine ⟨j, a, ?_, d⟩
        rcases Nat.lt_succ_iff_lt_or_eq.1 b with b | rfl
        · exact b
        · rw [h] at d; cases d
    | false =>
      simp only [Bool.false_eq_true, if_false, List.mem_append, List.mem_singleton]
      rw [ih]
      constructor
      · rintro (⟨j, a, b, d⟩ | rfl)
        · exact ⟨j, a, by omega, d⟩
        · exact ⟨k, rfl, by omega, h⟩
      · rintro ⟨j, a, b, d⟩
        rcases Nat.lt_succ_iff_lt_or_eq.1 b with b | rfl
        · exact .inl ⟨j, a, b, d⟩
        · exact .inr a
theorem left_cnt (us : List Bool) : ∀ k, k ≤ us.length → (leftL us k).length + (us.take k).count true = k
  | 0, _ => by simp [leftL]
  | k + 1, hk => by
    have ih := left_cnt us k (by omega)
    have e : us.getD k false = us[k] := by rw [List.getD_eq_getElem?_getD, List.getElem?_eq_getElem (by omega)]; rfl
    unfold leftL
    rw [List.take_succ_eq_append_getElem (by omega), List.count_append, e]
    cases us[k] <;> simp <;> omega
/-- What a whole plan gives. -/
theorem planL_ok {rows : List (List Int)} {n : Nat} (hrows : ∀ r ∈ rows, ∀ c ∈ r, 0 ≤ c ∧ c < n) :
    (planL n rows).steps.length + (planL n rows).dead.length = n ∧ (planL n rows).steps.length + (leftL (planL n rows).used rows.length).length = rows.length ∧ (∀ c ∈ (planL n rows).dead, 0 ≤ c ∧ c < n) ∧ (planL n rows).dead.Nodup ∧
    (∀ c ∈ leftL (planL n rows).used rows.length, 0 ≤ c ∧ c < rows.length) ∧ goodSteps rows (· ∈ (planL n rows).dead) (· ∈ leftL (planL n rows).used rows.length) (planL n rows).steps := by
  have h := run_ok hrows n (List.replicate n true) (List.replicate rows.length false) (by simp) (by simp) (by simp)
  have hu : (planL n rows).used.length = rows.length := by unfold planL; rw [plan_used_len]; simp
  have hlc := left_cnt (planL n rows).used rows.length (by omega)
  rw [List.take_of_length_le (by omega)] at hlc
  refine ⟨by have := h.cols; simpa [planL] using this, ?_, fun c hc => ?_, h.deadN, fun c hc => ?_, ?_⟩
  · have := h.used
    have e0 : (List.replicate rows.length false).count true = 0 := by simp [List.count_replicate]
    rw [e0] at this
    unfold planL at *
    omega
  · obtain ⟨h0, h1⟩ := h.dead c hc
    have := opn_lt h1
    simp at this
    omega
  · obtain ⟨j, rfl, hj, _⟩ := (left_mem _ _ _).1 hc
    omega
  · refine h.good _ _ (fun c hc0 hcn => ?_) (fun i hi => ?_)
    · have : opn (List.replicate n true) c = true := by
        simp at hcn
        unfold opn; rw [List.getD_eq_getElem?_getD, List.getElem?_eq_getElem (by simp; omega)]; simp
      rw [this]; simp [planL]
    · rw [repl_getD, left_mem]
      constructor
      · rintro ⟨j, hj, _, hd⟩
        have : j = i := by omega
        subst this
        exact .inr hd
      · rintro (hh | hh)
        · cases hh
        · exact ⟨i, rfl, hi, hh⟩
theorem left_rises (us : List Bool) : ∀ k, ∀ c ∈ leftL us k, c < k := fun k c hc => by
  obtain ⟨j, rfl, hj, _⟩ := (left_mem us k c).1 hc
  omega
end Wl
