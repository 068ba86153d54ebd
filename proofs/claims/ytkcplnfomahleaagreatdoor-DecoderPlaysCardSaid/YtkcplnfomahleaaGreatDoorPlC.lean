/- Part of the proofs that wellspringlaw14's laws answer true whatever the input reads, and leave it as it was; no condition. -/
import Derived.Test.YtkcplnfomahleaaGreatDoorPlA
set_option linter.unusedVariables false
set_option linter.unusedSimpArgs false
namespace Wl
def opn (op : List Bool) (c : Int) : Bool := op.getD c.toNat false
def openCols (op : List Bool) (r : List Int) : List Int := r.filter (opn op)
def tells (rows : List (List Int)) (op us : List Bool) (i : Nat) : Bool := !(us.getD i false) && (openCols op (rows.getD i [])).length == 1
def stepL (rows : List (List Int)) (op us : List Bool) : Option Nat := (List.range rows.length).find? (tells rows op us)
def colOf (rows : List (List Int)) (op : List Bool) (i : Nat) : Int := (openCols op (rows.getD i [])).getLast?.getD 0
def addRow (cs : List Int) (r : List Int) : List Int := r.foldl (fun cs c => cs.set c.toNat (cs.getD c.toNat 0 + 1)) cs
def cntRows (g : Nat → List Int → List Int) (rows : List (List Int)) (us : List Bool) (cs : List Int) : Nat → List Int
  | 0 => cs
  | k + 1 => if us.getD k false then cntRows g rows us cs k else addRow (cntRows g rows us cs k) (g k (rows.getD k []))
def bestL (op : List Bool) (cs : List Int) : Nat → Int
  | 0 => -1
  | k + 1 => if op.getD k false && (decide (bestL op cs k < 0) || decide (cs.getD k 0 > cs.getD (bestL op cs k).toNat 0)) then (k : Int) else bestL op cs k
def mostL (rows : List (List Int)) (op us : List Bool) : Int := bestL op (cntRows (fun _ r => r) rows us (List.replicate op.length 0) rows.length) op.length
structure Pl where
  steps : List (Int × Int)
  dead : List Int
  used : List Bool
def planRun (rows : List (List Int)) : Nat → List Bool → List Bool → Pl
  | 0, _, us => ⟨[], [], us⟩
  | k + 1, op, us =>
    if op.contains true then
      match stepL rows op us with
      | some i => let r := planRun rows k (op.set (colOf rows op i).toNat false) (us.set i true); ⟨((i : Int), colOf rows op i) :: r.steps, r.dead, r.used⟩
      | none => let r := planRun rows k (op.set (mostL rows op us).toNat false) us; ⟨r.steps, mostL rows op us :: r.dead, r.used⟩
    else ⟨[], [], us⟩
def leftL (us : List Bool) : Nat → List Int
  | 0 => []
  | k + 1 => if us.getD k false then leftL us k else leftL us k ++ [(k : Int)]
def planL (n : Nat) (rows : List (List Int)) : Pl := planRun rows n (List.replicate n true) (List.replicate rows.length false)
theorem find_none {P : Nat → Bool} {n : Nat} (h : ∀ j, j < n → P j = false) : (List.range n).find? P = none := by
  rw [List.find?_eq_none]
  intro x hx
  rw [List.mem_range] at hx
  simp [h x hx]
theorem find_some {P : Nat → Bool} {n k : Nat} (hk : k < n) (h : ∀ j, j < k → P j = false) (hp : P k = true) : (List.range n).find? P = some k := by
  rw [List.find?_eq_some_iff_append]
  refine ⟨hp, List.range k, List.range' (k + 1) (n - k - 1), ?_, fun a ha => ?_⟩
  · rw [List.range_eq_range', List.range_eq_range']
    have e1 : n = k + (n - k) := by omega
    have e2 : n - k = (n - k - 1) + 1 := by omega
    conv => lhs; rw [e1, ← List.range'_append_1 (s := 0) (m := k) (n := n - k)]
    rw [Nat.zero_add]
    conv => lhs; rw [e2, List.range'_succ]
  · rw [List.mem_range] at ha
    simp [h a ha]
theorem addRow_snoc (cs r : List Int) (c : Int) : addRow cs (r ++ [c]) = (addRow cs r).set c.toNat ((addRow cs r).getD c.toNat 0 + 1) := by
  simp [addRow]
theorem addRow_length (cs r : List Int) : (addRow cs r).length = cs.length := by
  induction r generalizing cs with
  | nil => rfl
  | cons a t ih => simp only [addRow, List.foldl_cons] at *; rw [ih]; simp
theorem cnt_length (g : Nat → List Int → List Int) (rows : List (List Int)) (us : List Bool) (cs : List Int) : ∀ k, (cntRows g rows us cs k).length = cs.length
  | 0 => rfl
  | k + 1 => by
    unfold cntRows
    split
    · exact cnt_length g rows us cs k
    · rw [addRow_length, cnt_length g rows us cs k]
theorem addRow_le {m : Int} : ∀ {r cs : List Int}, (∀ x ∈ cs, 0 ≤ x ∧ x ≤ m) → ∀ x ∈ addRow cs r, 0 ≤ x ∧ x ≤ m + r.length
  | [], cs, h, x, hx => by have := h x hx; simp; omega
  | a :: t, cs, h, x, hx => by
    have h2 : ∀ y ∈ cs.set a.toNat (cs.getD a.toNat 0 + 1), 0 ≤ y ∧ y ≤ m + 1 := by
      intro y hy
      rcases List.mem_or_eq_of_mem_set hy with hy | hy
      · have := h y hy; omega
      · subst hy
        rw [List.getD_eq_getElem?_getD]
        cases hc : cs[a.toNat]? with
        | none =>
          rw [List.getElem?_eq_none_iff] at hc
          rw [List.set_eq_of_length_le hc] at hy
          have := h _ hy
          rw [List.getD_eq_getElem?_getD, List.getElem?_eq_none hc] at this
          simp at this ⊢; omega
        | some z => have := h z (List.mem_of_getElem? hc); simp; omega
    have := addRow_le (r := t) h2 x hx
    simp only [List.length_cons]; omega
theorem cnt_le (g : Nat → List Int → List Int) {rows : List (List Int)} {us : List Bool} {n : Nat} (hr : ∀ k, (g k (rows.getD k [])).length ≤ 64) : ∀ k, ∀ x ∈ cntRows g rows us (List.replicate n 0) k, 0 ≤ x ∧ x ≤ 64 * k
  | 0, x, hx => by
    have := List.eq_of_mem_replicate hx
    subst this; simp
  | k + 1, x, hx => by
    unfold cntRows at hx
    split at hx
    · have := cnt_le g hr k x hx; omega
    · have := addRow_le (cnt_le g hr k) x hx
      have := hr k
      omega
end Wl
namespace Wl
theorem best_open (op : List Bool) (cs : List Int) : ∀ k, (bestL op cs k = -1 ∧ ∀ j, j < k → op.getD j false = false) ∨ (0 ≤ bestL op cs k ∧ bestL op cs k < k ∧ op.getD (bestL op cs k).toNat false = true)
  | 0 => .inl ⟨rfl, fun j hj => by omega⟩
  | k + 1 => by
    unfold bestL
    split
    · rename_i hc
      simp only [Bool.and_eq_true] at hc
      exact .inr ⟨by omega, by omega, by rw [Int.toNat_natCast]; exact hc.1⟩
    · rename_i hc
      rcases best_open op cs k with ⟨e, h⟩ | ⟨h1, h2, h3⟩
      · refine .inl ⟨e, fun j hj => ?_⟩
        rcases Nat.lt_succ_iff_lt_or_eq.1 hj with hj | rfl
        · exact h j hj
        · by_cases ho : op.getD j false = true
          · exact absurd (by rw [ho, e]; rfl) hc
          · simpa using ho
      · exact .inr ⟨h1, by omega, h3⟩
theorem contains_get {op : List Bool} (h : op.contains true = true) : ∃ j, j < op.length ∧ op.getD j false = true := by
  simp only [List.contains_iff_mem] at h
  obtain ⟨j, hj, e⟩ := List.getElem_of_mem h
  exact ⟨j, hj, by rw [List.getD_eq_getElem?_getD, List.getElem?_eq_getElem hj]; exact e⟩
theorem most_open {rows : List (List Int)} {op us : List Bool} (h : op.contains true = true) : 0 ≤ mostL rows op us ∧ mostL rows op us < op.length ∧ op.getD (mostL rows op us).toNat false = true := by
  obtain ⟨j, hj, e⟩ := contains_get h
  rcases best_open op (cntRows (fun _ r => r) rows us (List.replicate op.length 0) rows.length) op.length with ⟨_, h2⟩ | h2
  · rw [h2 j hj] at e; cases e
  · exact h2
theorem step_tells {rows : List (List Int)} {op us : List Bool} {i : Nat} (h : stepL rows op us = some i) : i < rows.length ∧ tells rows op us i = true := by
  have h1 := List.mem_of_find?_eq_some h
  have h2 := List.find?_some h
  exact ⟨List.mem_range.1 h1, h2⟩
theorem col_open {rows : List (List Int)} {op us : List Bool} {i : Nat} (ht : tells rows op us i = true) : openCols op (rows.getD i []) = [colOf rows op i] ∧ colOf rows op i ∈ rows.getD i [] ∧ opn op (colOf rows op i) = true := by
  simp only [tells, Bool.and_eq_true, beq_iff_eq] at ht
  obtain ⟨c, hc⟩ := List.length_eq_one_iff.1 ht.2
  have e : colOf rows op i = c := by unfold colOf; rw [hc]; rfl
  have hm : c ∈ openCols op (rows.getD i []) := by rw [hc]; simp
  rw [openCols, List.mem_filter] at hm
  rw [e]
  exact ⟨hc, hm.1, hm.2⟩
theorem count_close {op : List Bool} {j : Nat} (h : op.getD j false = true) : (op.set j false).count true + 1 = op.count true := by
  have hj : j < op.length := by
    by_cases hj : j < op.length
    · exact hj
    · rw [List.getD_eq_getElem?_getD, List.getElem?_eq_none (by omega)] at h; cases h
  have e : op[j] = true := by rw [List.getD_eq_getElem?_getD, List.getElem?_eq_getElem hj] at h; exact h
  have hp : 0 < op.count true := List.count_pos_iff.2 (e ▸ List.getElem_mem hj)
  rw [List.count_set hj, e]; simp; omega
theorem not_contains {op : List Bool} (h : op.count true = 0) : op.contains true = false := by
  rw [List.count_eq_zero] at h
  simpa using h
theorem plan_stop {rows : List (List Int)} {op us : List Bool} (h : op.contains true = false) : ∀ k, planRun rows k op us = ⟨[], [], us⟩
  | 0 => rfl
  | k + 1 => by unfold planRun; rw [h]; rfl
theorem plan_step {rows : List (List Int)} {op us : List Bool} {i k : Nat} (h : op.contains true = true) (hs : stepL rows op us = some i) :
    planRun rows (k + 1) op us = ⟨((i : Int), colOf rows op i) :: (planRun rows k (op.set (colOf rows op i).toNat false) (us.set i true)).steps, (planRun rows k (op.set (colOf rows op i).toNat false) (us.set i true)).dead, (planRun rows k (op.set (colOf rows op i).toNat false) (us.set i true)).used⟩ := by
  rw [planRun, h, hs]; rfl
theorem plan_dead {rows : List (List Int)} {op us : List Bool} {k : Nat} (h : op.contains true = true) (hs : stepL rows op us = none) :
    planRun rows (k + 1) op us = ⟨(planRun rows k (op.set (mostL rows op us).toNat false) us).steps, mostL rows op us :: (planRun rows k (op.set (mostL rows op us).toNat false) us).dead, (planRun rows k (op.set (mostL rows op us).toNat false) us).used⟩ := by
  rw [planRun, h, hs]; rfl
theorem plan_used_len (rows : List (List Int)) : ∀ k op us, (planRun rows k op us).used.length = us.length
  | 0, _, _ => rfl
  | k + 1, op, us => by
    unfold planRun
    split
    · split
      · show (planRun rows k _ _).used.length = _
        rw [plan_used_len]; simp
      · show (planRun rows k _ _).used.length = _
        rw [plan_used_len]
    · rfl
end Wl
namespace Wl
theorem left_le (us : List Bool) : ∀ k, (leftL us k).length ≤ k
  | 0 => by simp [leftL]
  | k + 1 => by
    have := left_le us k
    unfold leftL
    split <;> simp <;> omega
end Wl
namespace Wl
theorem contains_of_count {op : List Bool} {f : Nat} (h : op.count true = f + 1) : op.contains true = true := by
  have : 0 < op.count true := by omega
  rw [List.count_pos_iff] at this
  simpa using this
end Wl
namespace Wl
end Wl
namespace Wl
end Wl
namespace Wl
theorem find_exists {P : Nat → Bool} {n j : Nat} (hj : j < n) (h : P j = true) : ∃ i, (List.range n).find? P = some i := by
  cases hf : (List.range n).find? P with
  | some i => exact ⟨i, rfl⟩
  | none =>
    rw [List.find?_eq_none] at hf
    exact absurd h (hf j (List.mem_range.2 hj))
theorem getD_setb (l : List Bool) (i j : Nat) (x : Bool) : (l.set i x).getD j false = if i = j ∧ j < l.length then x else l.getD j false := by
  simp only [List.getD_eq_getElem?_getD, List.getElem?_set]
  by_cases h : i = j
  · subst h
    by_cases h2 : i < l.length <;> simp [h2]
  · simp [h]
def usedDone (rows : List (List Int)) (op us : List Bool) : Prop := ∀ i, us.getD i false = true → openCols op (rows.getD i []) = []
theorem open_close {op : List Bool} {c d : Int} (h : opn (op.set d.toNat false) c = true) : opn op c = true ∧ c.toNat ≠ d.toNat := by
  unfold opn at *
  rw [getD_setb] at h
  by_cases e : d.toNat = c.toNat
  · rw [if_pos] at h
    · cases h
    · refine ⟨e, ?_⟩
      by_cases hl : c.toNat < op.length
      · exact hl
      · rw [if_neg (fun hh => hl hh.2), List.getD_eq_getElem?_getD, List.getElem?_eq_none (by omega)] at h; cases h
  · rw [if_neg (fun hh => e hh.1)] at h
    exact ⟨h, fun hh => e hh.symm⟩
theorem used_step {rows : List (List Int)} {op us : List Bool} {i : Nat} (hu : usedDone rows op us) (ht : tells rows op us i = true) : usedDone rows (op.set (colOf rows op i).toNat false) (us.set i true) := by
  obtain ⟨h1, h2, h3⟩ := col_open ht
  intro j hj
  rw [getD_setb] at hj
  rw [openCols, List.filter_eq_nil_iff]
  intro c hc ho
  obtain ⟨ho, hne⟩ := open_close ho
  have hm : c ∈ openCols op (rows.getD j []) := by rw [openCols, List.mem_filter]; exact ⟨hc, ho⟩
  by_cases e : i = j
  · subst e
    rw [h1] at hm
    simp at hm
    exact hne (by rw [hm])
  · rw [if_neg (fun hh => e hh.1)] at hj
    rw [hu j hj] at hm
    simp at hm
theorem repl_getD (n j : Nat) : (List.replicate n false).getD j false = false := by
  rw [List.getD_eq_getElem?_getD]
  by_cases h : j < n
  · rw [List.getElem?_eq_getElem (by simpa using h)]; simp
  · rw [List.getElem?_eq_none (by simpa using h)]; rfl
theorem row_at {rows : List (List Int)} {r : List Int} (h : r ∈ rows) : ∃ j, j < rows.length ∧ rows.getD j [] = r := by
  obtain ⟨j, hj, e⟩ := List.getElem_of_mem h
  exact ⟨j, hj, by rw [List.getD_eq_getElem?_getD, List.getElem?_eq_getElem hj]; exact e⟩
end Wl
namespace Wl
def other (m i : Nat) : Nat := if i < m then i else i + 1
end Wl
namespace Wl
def goodSteps (rows : List (List Int)) : (Int → Prop) → (Int → Prop) → List (Int × Int) → Prop
  | _, _, [] => True
  | D, U, (i, c) :: t => (0 ≤ i ∧ i < rows.length) ∧ ¬ U i ∧ ¬ D c ∧ c ∈ rows.getD i.toNat [] ∧ (∀ c' ∈ rows.getD i.toNat [], c' ≠ c → D c') ∧ goodSteps rows (fun x => D x ∨ x = c) (fun x => U x ∨ x = i) t
def opn0 (op : List Bool) (c : Int) : Prop := 0 ≤ c ∧ opn op c = true
theorem opn_lt {op : List Bool} {c : Int} (h : opn op c = true) : c.toNat < op.length := by
  by_cases hl : c.toNat < op.length
  · exact hl
  · unfold opn at h; rw [List.getD_eq_getElem?_getD, List.getElem?_eq_none (by omega)] at h; cases h
theorem opn_set {op : List Bool} {c d : Int} (hc : 0 ≤ c) (hd : 0 ≤ d) : opn op c = true → c ≠ d → opn (op.set d.toNat false) c = true := by
  intro h hne
  unfold opn
  rw [getD_setb, if_neg (fun hh => hne (by omega))]
  exact h
theorem opn_set_no {op : List Bool} {d : Int} (h : opn op d = true) : opn (op.set d.toNat false) d = false := by
  unfold opn
  rw [getD_setb, if_pos ⟨rfl, opn_lt h⟩]
structure RunOk (rows : List (List Int)) (op us : List Bool) (r : Pl) : Prop where
  cols : r.steps.length + r.dead.length = op.count true
  used : r.used.count true = us.count true + r.steps.length
  keepU : ∀ i, us.getD i false = true → r.used.getD i false = true
  dead : ∀ c ∈ r.dead, opn0 op c
  deadN : r.dead.Nodup
  good : ∀ D U : Int → Prop, (∀ c : Int, 0 ≤ c → c < op.length → (D c ↔ opn op c = false ∨ c ∈ r.dead)) → (∀ i : Nat, i < rows.length → (U i ↔ us.getD i false = true ∨ r.used.getD i false = false)) → goodSteps rows D U r.steps
theorem used_cnt {us : List Bool} {i : Nat} (h : us.getD i false = false) (hi : i < us.length) : (us.set i true).count true = us.count true + 1 := by
  have e : us[i] = false := by rw [List.getD_eq_getElem?_getD, List.getElem?_eq_getElem hi] at h; exact h
  rw [List.count_set hi, e]; simp
theorem run_ok {rows : List (List Int)} {n : Nat} (hrows : ∀ r ∈ rows, ∀ c ∈ r, 0 ≤ c ∧ c < n) : ∀ k op us, op.length = n → us.length = rows.length → op.count true = k → RunOk rows op us (planRun rows k op us)
  | 0, op, us, hl, hul, hc => ⟨by simp [planRun, hc], by simp [planRun], fun i h => h, fun c h => by simp [planRun] at h, by simp [planRun], fun _ _ _ _ => trivial⟩
  | k + 1, op, us, hl, hul, hc => by
    have hct := contains_of_count hc
    cases hst : stepL rows op us with
    | some i =>
      obtain ⟨hil, hti⟩ := step_tells hst
      obtain ⟨h1, h2, h3⟩ := col_open hti
      have hrowi : rows.getD i [] = rows[i] := by rw [List.getD_eq_getElem?_getD, List.getElem?_eq_getElem hil]; rfl
      have hcr := hrows _ (List.getElem_mem hil) _ (hrowi ▸ h2)
      have hcc := count_close (op := op) (j := (colOf rows op i).toNat) h3
      have hui : us.getD i false = false := by
        simp only [tells, Bool.and_eq_true, Bool.not_eq_true'] at hti
        exact hti.1
      have huc := used_cnt hui (by omega)
      have ih := run_ok hrows k (op.set (colOf rows op i).toNat false) (us.set i true) (by simp [hl]) (by simp [hul]) (by omega)
      rw [plan_step hct hst]
      generalize planRun rows k (op.set (colOf rows op i).toNat false) (us.set i true) = r at ih
      generalize hcol : colOf rows op i = c at *
      have hri : r.used.getD i false = true := ih.keepU i (by rw [getD_setb, if_pos ⟨rfl, by omega⟩])
      have hcd : c ∉ r.dead := fun h => by
        have := (ih.dead c h).2
        rw [opn_set_no h3] at this; cases this
      refine ⟨by simp only [List.length_cons]; have := ih.cols; omega, by simp only [List.length_cons]; have := ih.used; omega, fun j hj => ih.keepU j (by rw [getD_setb]; split; rfl; exact hj), fun d hd => ⟨(ih.dead d hd).1, (open_close (ih.dead d hd).2).1⟩, ih.deadN, fun D U hD hU => ?_⟩
      have hri' : rows.getD ((i : Int)).toNat [] = rows.getD i [] := by rw [Int.toNat_natCast]
      refine ⟨by omega, ?_, ?_, by rw [hri']; exact h2, ?_, ?_⟩
      · rw [hU i hil, hui, hri]; simp
      · rw [hD c hcr.1 (by omega), h3]; simp [hcd]
      · intro c' hc' hne
        rw [hri'] at hc'
        have hr' := hrows _ (List.getElem_mem hil) _ (hrowi ▸ hc')
        refine (hD c' hr'.1 (by omega)).2 (.inl ?_)
        cases ho : opn op c' with
        | false => rfl
        | true =>
          have : c' ∈ openCols op (rows.getD i []) := by rw [openCols, List.mem_filter]; exact ⟨hc', ho⟩
          rw [h1] at this
          simp at this
          exact absurd this hne
      · refine ih.good _ _ (fun d hd0 hdn => ?_) (fun j hj => ?_)
        · simp only [List.length_set] at hdn
          rw [hD d hd0 hdn]
          by_cases e : d = c
          · subst e
            simp [opn_set_no h3]
          · cases ho : opn op d with
            | true => rw [opn_set hd0 hcr.1 ho e]; simp [e]
            | false =>
              have : opn (op.set c.toNat false) d = false := by
                cases hh : opn (op.set c.toNat false) d with
                | false => rfl
                | true => rw [(open_close hh).1] at ho; cases ho
              rw [this]; simp
        · rw [hU j hj, getD_setb]
          by_cases e : i = j
          · subst e
            simp [hul, hil]
          · have e2 : ¬ ((j : Int) = (i : Int)) := fun h => e (by omega)
            simp [e, e2]
    | none =>
      obtain ⟨m1, m2, m3⟩ := most_open (rows := rows) (us := us) hct
      have hcc := count_close (op := op) (j := (mostL rows op us).toNat) m3
      have ih := run_ok hrows k (op.set (mostL rows op us).toNat false) us (by simp [hl]) hul (by omega)
      rw [plan_dead hct hst]
      generalize planRun rows k (op.set (mostL rows op us).toNat false) us = r at ih
      generalize mostL rows op us = c at *
      have h3 : opn op c = true := m3
      have hcd : c ∉ r.dead := fun h => by
        have := (ih.dead c h).2
        rw [opn_set_no h3] at this; cases this
      refine ⟨by simp only [List.length_cons]; have := ih.cols; omega, ih.used, ih.keepU, fun d hd => ?_, by simp only [List.nodup_cons]; exact ⟨hcd, ih.deadN⟩, fun D U hD hU => ?_⟩
      · rcases List.mem_cons.1 hd with rfl | hd
        · exact ⟨m1, h3⟩
        · exact ⟨(ih.dead d hd).1, (open_close (ih.dead d hd).2).1⟩
      · refine ih.good D U (fun d hd0 hdn => ?_) hU
        simp only [List.length_set] at hdn
        rw [hD d hd0 hdn]
        by_cases e : d = c
        · subst e
          simp [opn_set_no h3]
        · have : opn (op.set c.toNat false) d = opn op d := by
            cases ho : opn op d with
            | true => exact opn_set hd0 m1 ho e
            | false =>
              cases hh : opn (op.set c.toNat false) d with
              | false => rfl
              | true => rw [(open_close hh).1] at ho; cases ho
          rw [this]; simp [e]
theorem left_mem (us : List Bool) : ∀ k (c : Int), c ∈ leftL us k ↔ ∃ j : Nat, c = j ∧ j < k ∧ us.getD j false = false
  | 0, c => by simp [leftL]
  | k + 1, c => by
    have ih := left_mem us k c
    unfold leftL
    cases h : us.getD k false with
    | true =>
      simp only [if_true]
      rw [ih]
      constructor
      · rintro ⟨j, a, b, d⟩; exact ⟨j, a, by omega, d⟩
      · rintro ⟨j, a, b, d⟩
        refine ⟨j, a, ?_, d⟩
        rcases Nat.lt_succ_iff_lt_or_eq.1 b with b | rfl
        · exact b
        · rw [h] at d; cases d
    | false =>
      simp only [Bool.false_eq_true, if_false, List.mem_append, List.mem_singleton]
      rw [ih]
      constructor
      · rintro (⟨j, a, b, d⟩ | rfl)
        · exact ⟨j, a, by omega, d⟩
        · exact ⟨k, rfl, by omega, h⟩
      · rintro ⟨j, a, b, d⟩
        rcases Nat.lt_succ_iff_lt_or_eq.1 b with b | rfl
        · exact .inl ⟨j, a, b, d⟩
        · exact .inr a
theorem left_cnt (us : List Bool) : ∀ k, k ≤ us.length → (leftL us k).length + (us.take k).count true = k
  | 0, _ => by simp [leftL]
  | k + 1, hk => by
    have ih := left_cnt us k (by omega)
    have e : us.getD k false = us[k] := by rw [List.getD_eq_getElem?_getD, List.getElem?_eq_getElem (by omega)]; rfl
    unfold leftL
    rw [List.take_succ_eq_append_getElem (by omega), List.count_append, e]
    cases us[k] <;> simp <;> omega
theorem planL_ok {rows : List (List Int)} {n : Nat} (hrows : ∀ r ∈ rows, ∀ c ∈ r, 0 ≤ c ∧ c < n) :
    (planL n rows).steps.length + (planL n rows).dead.length = n ∧ (planL n rows).steps.length + (leftL (planL n rows).used rows.length).length = rows.length ∧ (∀ c ∈ (planL n rows).dead, 0 ≤ c ∧ c < n) ∧ (planL n rows).dead.Nodup ∧
    (∀ c ∈ leftL (planL n rows).used rows.length, 0 ≤ c ∧ c < rows.length) ∧ goodSteps rows (· ∈ (planL n rows).dead) (· ∈ leftL (planL n rows).used rows.length) (planL n rows).steps := by
  have h := run_ok hrows n (List.replicate n true) (List.replicate rows.length false) (by simp) (by simp) (by simp)
  have hu : (planL n rows).used.length = rows.length := by unfold planL; rw [plan_used_len]; simp
  have hlc := left_cnt (planL n rows).used rows.length (by omega)
  rw [List.take_of_length_le (by omega)] at hlc
  refine ⟨by have := h.cols; simpa [planL] using this, ?_, fun c hc => ?_, h.deadN, fun c hc => ?_, ?_⟩
  · have := h.used
    have e0 : (List.replicate rows.length false).count true = 0 := by simp [List.count_replicate]
    rw [e0] at this
    unfold planL at *
    omega
  · obtain ⟨h0, h1⟩ := h.dead c hc
    have := opn_lt h1
    simp at this
    omega
  · obtain ⟨j, rfl, hj, _⟩ := (left_mem _ _ _).1 hc
    omega
  · refine h.good _ _ (fun c hc0 hcn => ?_) (fun i hi => ?_)
    · have : opn (List.replicate n true) c = true := by
        simp at hcn
        unfold opn; rw [List.getD_eq_getElem?_getD, List.getElem?_eq_getElem (by simp; omega)]; simp
      rw [this]; simp [planL]
    · rw [repl_getD, left_mem]
      constructor
      · rintro ⟨j, hj, _, hd⟩
        have : j = i := by omega
        subst this
        exact .inr hd
      · rintro (hh | hh)
        · cases hh
        · exact ⟨i, rfl, hi, hh⟩
end Wl
namespace Wl
abbrev EqL := List Int × Row
def xsum (x : Int → UInt8) : List Int → UInt8
  | [] => 0
  | c :: l => x c ^^^ xsum x l
theorem xsum_congr {x y : Int → UInt8} : ∀ {l : List Int}, (∀ c ∈ l, x c = y c) → xsum x l = xsum y l
  | [], _ => rfl
  | c :: l, h => by rw [xsum, xsum, h c (by simp), xsum_congr fun d hd => h d (by simp [hd])]
theorem xsum_filter (x : Int → UInt8) (p : Int → Bool) : ∀ l, xsum x l = xsum x (l.filter p) ^^^ xsum x (l.filter fun c => !p c)
  | [] => by simp [xsum]
  | c :: l => by
    rw [xsum, xsum_filter x p l]
    cases h : p c <;> simp only [List.filter_cons, h, Bool.not_true, Bool.not_false, if_true, Bool.false_eq_true, if_false, xsum] <;> ac_rfl
theorem xsum_pick (x : Int → UInt8) {c : Int} : ∀ {l : List Int}, l.Nodup → c ∈ l → xsum x l = x c ^^^ xsum x (l.filter fun d => !decide (d = c))
  | [], _, h => by cases h
  | d :: l, hd, h => by
    rw [List.nodup_cons] at hd
    rcases List.mem_cons.1 h with rfl | h
    · have : l.filter (fun d => !decide (d = c)) = l := List.filter_eq_self.2 fun e he => by
        have : e ≠ c := fun hh => hd.1 (hh ▸ he)
        simp [this]
      rw [List.filter_cons]; simp only [decide_true, Bool.not_true, Bool.false_eq_true, if_false]; rw [this, xsum]
    · have hne : d ≠ c := fun hh => hd.1 (hh ▸ h)
      rw [List.filter_cons, if_pos (by simp [hne]), xsum, xsum, xsum_pick x hd.2 h]; ac_rfl
theorem xsum_xor (x y : Int → UInt8) : ∀ l, xsum (fun c => x c ^^^ y c) l = xsum x l ^^^ xsum y l
  | [] => by simp [xsum]
  | c :: l => by rw [xsum, xsum, xsum, xsum_xor x y l]; ac_rfl
theorem xsum_zero : ∀ {x : Int → UInt8} {l : List Int}, (∀ c ∈ l, x c = 0) → xsum x l = 0
  | _, [], _ => rfl
  | x, c :: l, h => by rw [xsum, h c (by simp), xsum_zero fun d hd => h d (by simp [hd])]; rfl
def addC (V : Mat) (a : Row) (l : List Int) : Row := l.foldl (fun a c => addB 1 (rowB V c.toNat) a) a
theorem addC_len {V : Mat} {m : Nat} : ∀ {l : List Int} {a : Row}, a.length = m → (∀ c ∈ l, (rowB V c.toNat).length = m) → (addC V a l).length = m
  | [], a, h, _ => h
  | c :: l, a, h, hv => by
    rw [addC, List.foldl_cons]
    exact addC_len (l := l) (by rw [add_len (by rw [hv c (by simp), h])]; exact h) fun d hd => hv d (by simp [hd])
theorem col_addC {V : Mat} {m : Nat} (j : Nat) : ∀ {l : List Int} {a : Row}, a.length = m → (∀ c ∈ l, (rowB V c.toNat).length = m) → colB (addC V a l) j = colB a j ^^^ xsum (fun c => colB (rowB V c.toNat) j) l
  | [], a, _, _ => by simp [addC, xsum]
  | c :: l, a, h, hv => by
    have hl : (rowB V c.toNat).length = a.length := by rw [hv c (by simp), h]
    rw [addC, List.foldl_cons]
    have := col_addC (V := V) j (l := l) (a := addB 1 (rowB V c.toNat) a) (by rw [add_len hl]; exact h) fun d hd => hv d (by simp [hd])
    rw [addC] at this
    rw [this, col_add hl, Gf.one_mul, xsum]; ac_rfl
def Sat (t : UInt8) (k : Nat) (x : Int → UInt8) (e : EqL) : Prop := xsum x e.1 = Gf.mul t (colB e.2 k)
structure EqOk (n w : Nat) (e : EqL) : Prop where
  cols : ∀ c ∈ e.1, 0 ≤ c ∧ c < (n : Int)
  nodup : e.1.Nodup
  len : e.2.length = w
def kn (known : List Bool) (c : Int) : Bool := known.getD c.toNat false
def leftB (known : List Bool) (vals : Mat) (e : EqL) : EqL := (e.1.filter fun c => !kn known c, addC vals e.2 (e.1.filter fun c => kn known c))
structure PInv (n w : Nat) (l : List EqL) (known : List Bool) (vals : Mat) : Prop where
  klen : known.length = n
  vlen : vals.length = n
  row : ∀ c : Nat, c < n → (rowB vals c).length = if known.getD c false then w else 0
  sound : ∀ t k x, k < w → (∀ e ∈ l, Sat t k x e) → ∀ c : Int, 0 ≤ c → c < (n : Int) → kn known c = true → x c = Gf.mul t (colB (rowB vals c.toNat) k)
section
variable {n w : Nat} {l : List EqL} {known : List Bool} {vals : Mat}
theorem pinv_start (n w : Nat) (l : List EqL) : PInv n w l (List.replicate n false) (List.replicate n []) := by
  refine ⟨by simp, by simp, fun c hc => ?_, fun t k x hk hs c h0 h1 h2 => ?_⟩
  · rw [row_lt (by simpa using hc)]; simp [List.getD_eq_getElem?_getD, hc]
  · exfalso
    rw [kn, List.getD_eq_getElem?_getD, List.getElem?_replicate] at h2
    split at h2 <;> simp at h2
theorem PInv.rowLen (h : PInv n w l known vals) {c : Int} (h0 : 0 ≤ c) (h1 : c < (n : Int)) (hk : kn known c = true) : (rowB vals c.toNat).length = w := by
  have := h.row c.toNat (by omega)
  rw [kn] at hk
  rw [hk] at this; simpa using this
theorem PInv.leftOk (h : PInv n w l known vals) {e : EqL} (he : EqOk n w e) : EqOk n w (leftB known vals e) :=
  ⟨fun c hc => he.cols c (List.mem_filter.1 hc).1, he.nodup.filter _, addC_len he.len fun c hc => by
    have hc' := List.mem_filter.1 hc
    exact h.rowLen (he.cols c hc'.1).1 (he.cols c hc'.1).2 hc'.2⟩
theorem PInv.leftSat (h : PInv n w l known vals) {e : EqL} (he : EqOk n w e) {t : UInt8} {k : Nat} {x : Int → UInt8} (hx : ∀ c : Int, 0 ≤ c → c < (n : Int) → kn known c = true → x c = Gf.mul t (colB (rowB vals c.toNat) k)) :
    Sat t k x (leftB known vals e) ↔ Sat t k x e := by
  have hlen : ∀ c ∈ e.1.filter (fun c => kn known c), (rowB vals c.toNat).length = w := fun c hc => by
    have hc' := List.mem_filter.1 hc
    exact h.rowLen (he.cols c hc'.1).1 (he.cols c hc'.1).2 hc'.2
  have e1 : xsum x (e.1.filter fun c => kn known c) = Gf.mul t (xsum (fun c => colB (rowB vals c.toNat) k) (e.1.filter fun c => kn known c)) := by
    rw [xsum_congr (y := fun c => Gf.mul t (colB (rowB vals c.toNat) k)) fun c hc => hx c (he.cols c (List.mem_filter.1 hc).1).1 (he.cols c (List.mem_filter.1 hc).1).2 (List.mem_filter.1 hc).2]
    generalize e.1.filter (fun c => kn known c) = m
    induction m with
    | nil => simp [xsum, Gf.mul_zero]
    | cons a m ih => rw [xsum, xsum, Gf.mul_xor, ih]
  unfold Sat leftB
  dsimp only
  rw [col_addC k he.len hlen, Gf.mul_xor, ← e1, xsum_filter x (fun c => kn known c) e.1]
  constructor
  · intro hh; rw [hh]; rw [UInt8.xor_comm, xor_can]
  · intro hh; rw [← hh]; rw [UInt8.xor_comm (xsum x (e.1.filter fun c => kn known c)), xor_can]
theorem kn_set {known : List Bool} {c d : Int} (h0 : 0 ≤ c) (h0' : 0 ≤ d) (hc : c < (known.length : Int)) : kn (known.set c.toNat true) d = (decide (d = c) || kn known d) := by
  unfold kn
  rw [List.getD_eq_getElem?_getD, List.getElem?_set]
  by_cases h : d = c
  · subst h; rw [if_pos rfl, if_pos (by omega)]; simp
  · rw [if_neg (by omega)]; simp [h]
theorem pinv_step (h : PInv n w l known vals) (hl : ∀ e ∈ l, EqOk n w e) {e : EqL} (he : e ∈ l) {c : Int} (hc : (leftB known vals e).1 = [c]) : PInv n w l (known.set c.toNat true) (vals.set c.toNat (leftB known vals e).2) := by
  have hok := h.leftOk (hl e he)
  have hcc := hok.cols c (by rw [hc]; simp)
  have hv := h.vlen; have hkl := h.klen
  refine ⟨by simp [hkl], by simp [hv], fun d hd => ?_, fun t k x hk hs d h0 h1 h2 => ?_⟩
  · rw [row_set (by omega), List.getD_eq_getElem?_getD, List.getElem?_set]
    by_cases hdc : c.toNat = d
    · subst hdc; simp [show c.toNat < known.length by omega, hok.len]
    · rw [if_neg hdc, if_neg hdc, h.row d hd, List.getD_eq_getElem?_getD]
  · rw [kn_set hcc.1 h0 (by omega)] at h2
    rw [row_set (by omega)]
    by_cases hdc : d = c
    · subst hdc
      rw [if_pos rfl]
      have := (h.leftSat (hl e he) (h.sound t k x hk hs)).2 (hs e he)
      unfold Sat at this
      rw [hc] at this
      simpa [xsum] using this
    · rw [if_neg (by omega)]
      exact h.sound t k x hk hs d h0 h1 (by simpa [hdc] using h2)
theorem leftAgain (h : PInv n w l known vals) (e : EqL) : ∀ c ∈ (leftB known vals e).1, kn known c = false := fun c hc => by
  have := (List.mem_filter.1 hc).2; simpa using this
def restB' (known : List Bool) (vals : Mat) (l : List EqL) : List EqL := (l.map (leftB known vals)).filter fun e => !e.1.isEmpty
def clashB (known : List Bool) (vals : Mat) (l : List EqL) : Bool := (l.map (leftB known vals)).any fun e => e.1.isEmpty && e.2.any (· != 0)
theorem peel_iff (h : PInv n w l known vals) (hl : ∀ e ∈ l, EqOk n w e) (hcl : clashB known vals l = false) {t : UInt8} {k : Nat} {x : Int → UInt8} (hk : k < w) :
    (∀ e ∈ l, Sat t k x e) ↔ (∀ c : Int, 0 ≤ c → c < (n : Int) → kn known c = true → x c = Gf.mul t (colB (rowB vals c.toNat) k)) ∧ ∀ e ∈ restB' known vals l, Sat t k x e := by
  constructor
  · intro hs
    refine ⟨h.sound t k x hk hs, fun e he => ?_⟩
    obtain ⟨e0, he0, rfl⟩ := List.mem_map.1 (List.mem_filter.1 he).1
    exact (h.leftSat (hl e0 he0) (h.sound t k x hk hs)).2 (hs e0 he0)
  · rintro ⟨hx, hr⟩ e he
    refine (h.leftSat (hl e he) hx).1 ?_
    by_cases hem : (leftB known vals e).1 = []
    · unfold Sat
      rw [hem, xsum]
      have h1 : ((leftB known vals e).1.isEmpty && (leftB known vals e).2.any (· != 0)) = false := by
        have := List.any_eq_false.1 hcl _ (List.mem_map_of_mem he)
        simpa using this
      rw [hem] at h1
      have h2 : ∀ y ∈ (leftB known vals e).2, y = 0 := by simpa using h1
      have h3 := (h.leftOk (hl e he)).len
      have : colB (leftB known vals e).2 k = 0 := by
        rw [colB, List.getD_eq_getElem?_getD, List.getElem?_eq_getElem (by omega)]
        exact h2 _ (List.getElem_mem _)
      rw [this, Gf.mul_zero]
    · refine hr _ (List.mem_filter.2 ⟨List.mem_map_of_mem he, ?_⟩)
      simpa using hem
theorem peel_clash (h : PInv n w l known vals) (hl : ∀ e ∈ l, EqOk n w e) (hcl : clashB known vals l = true) : ∃ k, k < w ∧ ∀ x : Int → UInt8, ¬ ∀ e ∈ l, Sat 1 k x e := by
  obtain ⟨y, hy, h1⟩ := List.any_eq_true.1 hcl
  obtain ⟨e, he, rfl⟩ := List.mem_map.1 hy
  rw [Bool.and_eq_true] at h1
  obtain ⟨z, hz, hz0⟩ := List.any_eq_true.1 h1.2
  obtain ⟨k, hk, rfl⟩ := List.getElem_of_mem hz
  have h3 := (h.leftOk (hl e he)).len
  refine ⟨k, by omega, fun x hs => ?_⟩
  have h4 := (h.leftSat (hl e he) (h.sound 1 k x (by omega) hs)).2 (hs e he)
  unfold Sat at h4
  have hem : (leftB known vals e).1 = [] := by simpa using h1.1
  rw [hem, xsum, Gf.one_mul, colB, List.getD_eq_getElem?_getD, List.getElem?_eq_getElem hk] at h4
  simp at hz0
  exact hz0 h4.symm
end
end Wl
namespace Wl
theorem plan_used {rows : List (List Int)} : ∀ k op us i, (planRun rows k op us).used.getD i false = true → us.getD i false = true ∨ ∃ c, ((i : Int), c) ∈ (planRun rows k op us).steps
  | 0, _, _, _, h => .inl h
  | k + 1, op, us, i, h => by
    by_cases hct : op.contains true = true
    · cases hst : stepL rows op us with
      | some j =>
        rw [plan_step hct hst] at h ⊢
        dsimp only at h ⊢
        rcases plan_used k _ _ i h with h1 | ⟨c, hc⟩
        · rw [getD_setb] at h1
          by_cases hj : j = i
          · subst hj; exact .inr ⟨_, List.mem_cons_self⟩
          · rw [if_neg (fun hh => hj hh.1)] at h1; exact .inl h1
        · exact .inr ⟨c, List.mem_cons_of_mem _ hc⟩
      | none =>
        rw [plan_dead hct hst] at h ⊢
        exact plan_used k _ _ i h
    · have hct : op.contains true = false := by simpa using hct
      rw [plan_stop hct] at h ⊢; exact .inl h
theorem plan_told {rows : List (List Int)} {n : Nat} (hrows : ∀ r ∈ rows, ∀ c ∈ r, 0 ≤ c ∧ c < (n : Int)) : ∀ k op us, op.length = n → op.count true = k → ∀ c : Nat, op.getD c false = true →
    (c : Int) ∈ (planRun rows k op us).dead ∨ ∃ i, (i, (c : Int)) ∈ (planRun rows k op us).steps
  | 0, op, us, hl, hc, c, h => by
    have := not_contains hc
    exfalso
    have hlt : c < op.length := by
      by_cases hh : c < op.length
      · exact hh
      · rw [List.getD_eq_getElem?_getD, List.getElem?_eq_none (by omega)] at h; cases h
    rw [List.count_eq_zero] at hc
    rw [List.getD_eq_getElem?_getD, List.getElem?_eq_getElem hlt] at h
    exact hc (h ▸ List.getElem_mem hlt)
  | k + 1, op, us, hl, hc, c, h => by
    have hct := contains_of_count hc
    cases hst : stepL rows op us with
    | some j =>
      rw [plan_step hct hst]
      obtain ⟨hil, hti⟩ := step_tells hst
      obtain ⟨h1, h2, h3⟩ := col_open hti
      have hrowi : rows.getD j [] = rows[j] := by rw [List.getD_eq_getElem?_getD, List.getElem?_eq_getElem hil]; rfl
      have hcr := hrows _ (List.getElem_mem hil) _ (hrowi ▸ h2)
      have hcc := count_close (op := op) (j := (colOf rows op j).toNat) h3
      dsimp only
      by_cases hcj : (colOf rows op j).toNat = c
      · exact .inr ⟨j, by rw [show ((c : Nat) : Int) = colOf rows op j by omega]; exact List.mem_cons_self⟩
      · rcases plan_told hrows k (op.set (colOf rows op j).toNat false) (us.set j true) (by simp [hl]) (by omega) c (by rw [getD_setb, if_neg (fun hh => hcj hh.1)]; exact h) with h5 | ⟨i, h5⟩
        · exact .inl h5
        · exact .inr ⟨i, List.mem_cons_of_mem _ h5⟩
    | none =>
      rw [plan_dead hct hst]
      obtain ⟨m1, m2, m3⟩ := most_open (rows := rows) (us := us) hct
      have hcc := count_close (op := op) (j := (mostL rows op us).toNat) m3
      dsimp only
      by_cases hcj : (mostL rows op us).toNat = c
      · exact .inl (by rw [show ((c : Nat) : Int) = mostL rows op us by omega]; exact List.mem_cons_self)
      · rcases plan_told hrows k (op.set (mostL rows op us).toNat false) us (by simp [hl]) (by omega) c (by rw [getD_setb, if_neg (fun hh => hcj hh.1)]; exact h) with h5 | ⟨i, h5⟩
        · exact .inl (List.mem_cons_of_mem _ h5)
        · exact .inr ⟨i, h5⟩
theorem used_close {rows : List (List Int)} {op us : List Bool} {c : Int} (h : usedDone rows op us) : usedDone rows (op.set c.toNat false) us := fun i hi => by
  have := h i hi
  rw [openCols, List.filter_eq_nil_iff] at this ⊢
  exact fun d hd ho => this d hd (open_close ho).1
theorem plan_known {rows : List (List Int)} {c : Int} (hr : [c] ∈ rows) : ∀ k op us, usedDone rows op us → (∀ d : Int, d < 0 → d ∉ (planRun rows k op us).dead) → 0 ≤ c → c ∉ (planRun rows k op us).dead
  | 0, _, _, _, _, _ => by simp [planRun]
  | k + 1, op, us, hu, _, h0 => by
    by_cases hct : op.contains true = true
    · cases hst : stepL rows op us with
      | some j =>
        rw [plan_step hct hst]
        dsimp only
        obtain ⟨_, hti⟩ := step_tells hst
        exact plan_known hr k _ _ (used_step hu hti) (fun d hd hm => by
          have hrec : ∀ k op us, ∀ d ∈ (planRun rows k op us).dead, 0 ≤ d := plan_dead0
          have := hrec _ _ _ d hm; omega) h0
      | none =>
        rw [plan_dead hct hst]
        obtain ⟨m1, m2, m3⟩ := most_open (rows := rows) (us := us) hct
        dsimp only
        intro hm
        rcases List.mem_cons.1 hm with e | hm
        · obtain ⟨j, hj, hjr⟩ := row_at hr
          have ho : openCols op [c] = [c] := by rw [openCols, List.filter_cons, if_pos (show opn op c = true by rw [e]; exact m3)]; rfl
          have ht : tells rows op us j = true := by
            unfold tells
            rw [hjr, ho]
            cases hus : us.getD j false with
            | false => rfl
            | true => have := hu j hus; rw [hjr, ho] at this; cases this
          obtain ⟨i, hi⟩ : ∃ i, stepL rows op us = some i := find_exists hj ht
          rw [hst] at hi; cases hi
        · exact plan_known hr k _ _ (used_close hu) (fun d hd hm => by have := plan_dead0 (rows := rows) _ _ _ d hm; omega) h0 hm
    · have hct : op.contains true = false := by simpa using hct
      rw [plan_stop hct]; simp
where
  plan_dead0 {rows : List (List Int)} : ∀ k op us, ∀ d ∈ (planRun rows k op us).dead, 0 ≤ d
    | 0, _, _, d, h => by simp [planRun] at h
    | k + 1, op, us, d, h => by
      by_cases hct : op.contains true = true
      · cases hst : stepL rows op us with
        | some j => rw [plan_step hct hst] at h; exact plan_dead0 k _ _ d h
        | none =>
          rw [plan_dead hct hst] at h
          rcases List.mem_cons.1 h with rfl | h
          · exact (most_open hct).1
          · exact plan_dead0 k _ _ d h
      · have hct : op.contains true = false := by simpa using hct
        rw [plan_stop hct] at h; simp at h
def goodR (R : List (List Int)) : (Int → Prop) → List (Int × Int) → Prop
  | _, [] => True
  | D, (i, c) :: t => (0 ≤ i ∧ i < R.length) ∧ ¬ D c ∧ c ∈ R.getD i.toNat [] ∧ (∀ c' ∈ R.getD i.toNat [], c' ≠ c → D c') ∧ goodR R (fun x => D x ∨ x = c) t
theorem good_filter {R S : List (List Int)} {K : Int → Prop} (hR : ∀ r ∈ R, ∀ c ∈ r, ¬ K c) (hS : ∀ r ∈ S, ∀ c ∈ r, K c) : ∀ {steps : List (Int × Int)} {D D' U : Int → Prop}, goodSteps (R ++ S) D U steps → (∀ c, ¬ K c → (D c ↔ D' c)) →
    goodR R D' (steps.filter fun p => decide (p.1 < R.length))
  | [], _, _, _, _, _ => trivial
  | (i, c) :: t, D, D', U, h, hD => by
    obtain ⟨h1, h2, h3, h4, h5, h6⟩ := h
    rw [List.filter_cons]
    by_cases hi : i < R.length
    · have e : (R ++ S).getD i.toNat [] = R.getD i.toNat [] := by
        rw [List.getD_eq_getElem?_getD, List.getElem?_append_left (by omega), List.getD_eq_getElem?_getD]
      have hm : R.getD i.toNat [] ∈ R := by
        rw [List.getD_eq_getElem?_getD, List.getElem?_eq_getElem (by omega)]; exact List.getElem_mem _
      rw [e] at h4 h5
      have hk := hR _ hm c h4
      rw [if_pos (by simpa using hi)]
      refine ⟨⟨h1.1, hi⟩, fun hh => h3 ((hD c hk).2 hh), h4, fun c' hc' hne => (hD c' (hR _ hm c' hc')).1 (h5 c' hc' hne), good_filter hR hS h6 fun d hd => ?_⟩
      rw [hD d hd]
    · rw [if_neg (by simpa using hi)]
      have hm : (R ++ S).getD i.toNat [] ∈ S := by
        have hlt := h1.2
        rw [List.length_append] at hlt
        rw [List.getD_eq_getElem?_getD, List.getElem?_append_right (by omega), List.getElem?_eq_getElem (by omega)]; exact List.getElem_mem _
      have hk := hS _ hm c h4
      refine good_filter hR hS h6 fun d hd => ?_
      rw [← hD d hd]
      exact ⟨fun hh => hh.elim id fun he => absurd (he ▸ hk) hd, .inl⟩
def ev (t : UInt8) (k nd : Nat) (W M : Mat) (y : Nat → UInt8) (c : Int) : UInt8 := dotN (fun i => colB (rowB W c.toNat) i) y nd ^^^ Gf.mul t (colB (rowB M c.toNat) k)
theorem dot_addB {a b : Row} (h : a.length = b.length) (c : UInt8) (y : Nat → UInt8) (n : Nat) : dotN (fun j => colB (addB c a b) j) y n = dotN (fun j => colB b j) y n ^^^ Gf.mul c (dotN (fun j => colB a j) y n) := by
  rw [dotN_congr n (fun j _ => col_add h j) fun _ _ => rfl]; exact dot_lin _ _ _ _ _
theorem dot_addC {V : Mat} {m : Nat} (y : Nat → UInt8) (n : Nat) : ∀ {l : List Int} {a : Row}, a.length = m → (∀ c ∈ l, (rowB V c.toNat).length = m) → dotN (fun j => colB (addC V a l) j) y n = dotN (fun j => colB a j) y n ^^^ xsum (fun c => dotN (fun j => colB (rowB V c.toNat) j) y n) l
  | [], a, _, _ => by simp [addC, xsum]
  | c :: l, a, h, hv => by
    have hl : (rowB V c.toNat).length = a.length := by rw [hv c (by simp), h]
    have := dot_addC (V := V) y n (l := l) (a := addB 1 (rowB V c.toNat) a) (by rw [add_len hl]; exact h) fun d hd => hv d (by simp [hd])
    rw [addC, List.foldl_cons]
    rw [addC] at this
    rw [this, dot_addB hl, Gf.one_mul, xsum]; ac_rfl
theorem xsum_mul (t : UInt8) (x : Int → UInt8) : ∀ l, xsum (fun c => Gf.mul t (x c)) l = Gf.mul t (xsum x l)
  | [] => by simp [xsum, Gf.mul_zero]
  | c :: l => by rw [xsum, xsum, Gf.mul_xor, xsum_mul t x l]
theorem ev_addC {W M : Mat} {nd w : Nat} {l : List Int} {a m : Row} (ha : a.length = nd) (hm : m.length = w) (hW : ∀ c ∈ l, (rowB W c.toNat).length = nd) (hM : ∀ c ∈ l, (rowB M c.toNat).length = w) (t : UInt8) (k : Nat) (y : Nat → UInt8) :
    dotN (fun j => colB (addC W a l) j) y nd ^^^ Gf.mul t (colB (addC M m l) k) = (dotN (fun j => colB a j) y nd ^^^ Gf.mul t (colB m k)) ^^^ xsum (ev t k nd W M y) l := by
  rw [dot_addC y nd ha hW, col_addC k hm hM, Gf.mul_xor]
  have : xsum (ev t k nd W M y) l = xsum (fun c => dotN (fun j => colB (rowB W c.toNat) j) y nd) l ^^^ Gf.mul t (xsum (fun c => colB (rowB M c.toNat) k) l) := by
    rw [← xsum_mul, ← xsum_xor]; rfl
  rw [this]; ac_rfl
def stepW (rest : List EqL) (nd : Nat) (s : Mat × Mat) (p : Int × Int) : Mat × Mat :=
  let r := rest.getD p.1.toNat ([], [])
  (s.1.set p.2.toNat (addC s.1 (zeroB nd) (r.1.filter fun c => !decide (c = p.2))), s.2.set p.2.toNat (addC s.2 r.2 (r.1.filter fun c => !decide (c = p.2))))
structure WOk (n nd w : Nat) (D : Int → Prop) (W M : Mat) : Prop where
  wl : W.length = n
  ml : M.length = n
  rw_ : ∀ c : Int, D c → 0 ≤ c → c < (n : Int) → (rowB W c.toNat).length = nd ∧ (rowB M c.toNat).length = w
theorem ev_congr {W M W' M' : Mat} {t : UInt8} {k nd : Nat} {y : Nat → UInt8} {c : Int} (h1 : rowB W' c.toNat = rowB W c.toNat) (h2 : rowB M' c.toNat = rowB M c.toNat) : ev t k nd W' M' y c = ev t k nd W M y c := by unfold ev; rw [h1, h2]
theorem steps_ok {n nd w : Nat} {rest : List EqL} (hok : ∀ e ∈ rest, EqOk n w e) : ∀ {steps : List (Int × Int)} {D : Int → Prop} {W M : Mat}, goodR (rest.map Prod.fst) D steps → WOk n nd w D W M →
    WOk n nd w (fun c => D c ∨ ∃ i, (i, c) ∈ steps) (steps.foldl (stepW rest nd) (W, M)).1 (steps.foldl (stepW rest nd) (W, M)).2 ∧
    (∀ c : Int, D c → 0 ≤ c → rowB (steps.foldl (stepW rest nd) (W, M)).1 c.toNat = rowB W c.toNat ∧ rowB (steps.foldl (stepW rest nd) (W, M)).2 c.toNat = rowB M c.toNat) ∧
    (∀ p ∈ steps, ∀ t k y, k < w → Sat t k (ev t k nd (steps.foldl (stepW rest nd) (W, M)).1 (steps.foldl (stepW rest nd) (W, M)).2 y) (rest.getD p.1.toNat ([], []))) ∧
    (∀ t k x y, k < w → (∀ c : Int, D c → 0 ≤ c → c < (n : Int) → x c = ev t k nd W M y c) → (∀ p ∈ steps, Sat t k x (rest.getD p.1.toNat ([], []))) → ∀ c : Int, (D c ∨ ∃ i, (i, c) ∈ steps) → 0 ≤ c → c < (n : Int) → x c = ev t k nd (steps.foldl (stepW rest nd) (W, M)).1 (steps.foldl (stepW rest nd) (W, M)).2 y c)
  | [], D, W, M, _, hw => ⟨⟨hw.wl, hw.ml, fun c hc => hw.rw_ c (hc.elim id fun ⟨i, h⟩ => by cases h)⟩, fun _ _ _ => ⟨rfl, rfl⟩, fun p hp => by (cases hp), fun t k x y hk hx _ c hc h0 h1 => hx c (hc.elim id fun ⟨i, h⟩ => by cases h) h0 h1⟩
  | (i, c) :: st, D, W, M, hg, hw => by
    obtain ⟨g1, g2, g3, g4, g5⟩ := hg
    have hil : i.toNat < rest.length := by have := g1.2; rw [List.length_map] at this; omega
    obtain ⟨e, he⟩ : ∃ e, e = rest[i.toNat] := ⟨_, rfl⟩
    have er : rest.getD i.toNat ([], []) = e := by rw [List.getD_eq_getElem?_getD, List.getElem?_eq_getElem hil, he]; rfl
    have er' : (rest.map Prod.fst).getD i.toNat [] = e.1 := by rw [List.getD_eq_getElem?_getD, List.getElem?_map, List.getElem?_eq_getElem hil, he]; rfl
    rw [er'] at g3 g4
    have hoe := hok e (he ▸ List.getElem_mem hil)
    have hcr := hoe.cols c g3
    obtain ⟨F, hF⟩ : ∃ F, F = e.1.filter (fun d => !decide (d = c)) := ⟨_, rfl⟩
    have hFm : ∀ d ∈ F, d ∈ e.1 ∧ d ≠ c := fun d hd => by rw [hF, List.mem_filter] at hd; exact ⟨hd.1, by simpa using hd.2⟩
    have hFD : ∀ d ∈ F, D d ∧ 0 ≤ d ∧ d < (n : Int) := fun d hd => ⟨g4 d (hFm d hd).1 (hFm d hd).2, hoe.cols d (hFm d hd).1⟩
    have l1 : ∀ d ∈ F, (rowB W d.toNat).length = nd := fun d hd => (hw.rw_ d (hFD d hd).1 (hFD d hd).2.1 (hFD d hd).2.2).1
    have l2 : ∀ d ∈ F, (rowB M d.toNat).length = w := fun d hd => (hw.rw_ d (hFD d hd).1 (hFD d hd).2.1 (hFD d hd).2.2).2
    have lz : (zeroB nd).length = nd := by simp [zeroB]
    have hst : stepW rest nd (W, M) (i, c) = (W.set c.toNat (addC W (zeroB nd) F), M.set c.toNat (addC M e.2 F)) := by
      unfold stepW; dsimp only; rw [er, ← hF]
    have hwl := hw.wl; have hml := hw.ml
    have rW : ∀ d : Nat, rowB (W.set c.toNat (addC W (zeroB nd) F)) d = if c.toNat = d then addC W (zeroB nd) F else rowB W d := fun d => row_set (by omega)
    have rM : ∀ d : Nat, rowB (M.set c.toNat (addC M e.2 F)) d = if c.toNat = d then addC M e.2 F else rowB M d := fun d => row_set (by omega)
    have hw' : WOk n nd w (fun x => D x ∨ x = c) (W.set c.toNat (addC W (zeroB nd) F)) (M.set c.toNat (addC M e.2 F)) := by
      refine ⟨by simp [hwl], by simp [hml], fun d hd h0 h1 => ?_⟩
      rw [rW, rM]
      by_cases hdc : c.toNat = d.toNat
      · rw [if_pos hdc, if_pos hdc]; exact ⟨addC_len lz l1, addC_len hoe.len l2⟩
      · rw [if_neg hdc, if_neg hdc]; exact hw.rw_ d (hd.elim id fun hh => absurd (by rw [hh]) hdc) h0 h1
    obtain ⟨r1, r2, r3, r4⟩ := steps_ok hok g5 hw'
    rw [List.foldl_cons, hst]
    generalize st.foldl (stepW rest nd) (W.set c.toNat (addC W (zeroB nd) F), M.set c.toNat (addC M e.2 F)) = s at r1 r2 r3 r4
    have hcD : ∀ d : Int, D d → 0 ≤ d → c.toNat ≠ d.toNat := fun d hd h0 hh => g2 (by rw [show c = d by omega]; exact hd)
    have keep : ∀ d : Int, D d → 0 ≤ d → rowB s.1 d.toNat = rowB W d.toNat ∧ rowB s.2 d.toNat = rowB M d.toNat := fun d hd h0 => by
      have := r2 d (.inl hd) h0
      rw [rW, rM, if_neg (hcD d hd h0), if_neg (hcD d hd h0)] at this; exact this
    have atc : ∀ t k y, ev t k nd s.1 s.2 y c = Gf.mul t (colB e.2 k) ^^^ xsum (ev t k nd W M y) F := fun t k y => by
      have h2 := r2 c (.inr rfl) hcr.1
      rw [rW, rM, if_pos rfl, if_pos rfl] at h2
      unfold ev
      rw [h2.1, h2.2, ev_addC lz hoe.len l1 l2 t k y, dot_zero _ _ nd fun j _ => col_zero _ _, UInt8.zero_xor]; rfl
    have sumF : ∀ t k y, xsum (ev t k nd s.1 s.2 y) F = xsum (ev t k nd W M y) F := fun t k y => xsum_congr fun d hd => ev_congr (keep d (hFD d hd).1 (hFD d hd).2.1).1 (keep d (hFD d hd).1 (hFD d hd).2.1).2
    refine ⟨⟨r1.wl, r1.ml, fun d hd h0 h1 => r1.rw_ d ?_ h0 h1⟩, keep, fun p hp t k y hk => ?_, fun t k x y hk hx hs d hd h0 h1 => ?_⟩
    · rcases hd with hd | ⟨j, hj⟩
      · exact .inl (.inl hd)
      · rcases List.mem_cons.1 hj with hj | hj
        · injection hj with _ hj; exact .inl (.inr hj)
        · exact .inr ⟨j, hj⟩
    · rcases List.mem_cons.1 hp with rfl | hp
      · dsimp only
        rw [er]
        unfold Sat
        rw [xsum_pick _ hoe.nodup g3, ← hF, atc, sumF, xor_can]
      · exact r3 p hp t k y hk
    · refine r4 t k x y hk (fun d hd h0 h1 => ?_) (fun p hp => hs p (List.mem_cons_of_mem _ hp)) d ?_ h0 h1
      · by_cases hdc : d = c
        · subst hdc
          have h5 := hs (i, d) (by simp)
          dsimp only at h5
          rw [er] at h5
          unfold Sat at h5
          rw [xsum_pick _ hoe.nodup g3, ← hF, xsum_congr (y := ev t k nd W M y) fun d' hd' => hx d' (hFD d' hd').1 (hFD d' hd').2.1 (hFD d' hd').2.2] at h5
          have h6 : ev t k nd (W.set d.toNat (addC W (zeroB nd) F)) (M.set d.toNat (addC M e.2 F)) y d = Gf.mul t (colB e.2 k) ^^^ xsum (ev t k nd W M y) F := by
            unfold ev
            rw [rW, rM, if_pos rfl, if_pos rfl, ev_addC lz hoe.len l1 l2 t k y, dot_zero _ _ nd fun j _ => col_zero _ _, UInt8.zero_xor]; rfl
          rw [h6, ← h5, xor_can]
        · have hd' : D d := hd.elim id fun hh => absurd hh hdc
          rw [hx d hd' h0 h1]
          refine (ev_congr ?_ ?_).symm
          · rw [rW, if_neg (by omega)]
          · rw [rM, if_neg (by omega)]
      · rcases hd with hd | ⟨j, hj⟩
        · exact .inl (.inl hd)
        · rcases List.mem_cons.1 hj with hj | hj
          · injection hj with _ hj; exact .inl (.inr hj)
          · exact .inr ⟨j, hj⟩
end Wl
namespace Wl
def unitB (nd i : Nat) : Row := (zeroB nd).set i 1
theorem unit_len (nd i : Nat) : (unitB nd i).length = nd := by simp [unitB, zeroB]
theorem col_unit {nd i : Nat} (hi : i < nd) (j : Nat) : colB (unitB nd i) j = if j = i then 1 else 0 := by
  rw [unitB, col_set (by simpa [zeroB] using hi), col_zero]
theorem dot_unit {nd i : Nat} (hi : i < nd) (y : Nat → UInt8) : dotN (fun j => colB (unitB nd i) j) y nd = y i :=
  dot_one _ _ i nd hi fun j _ => by
    rw [col_unit hi]
    by_cases h : j = i
    · subst h; simp
    · rw [if_neg h, if_neg (fun hh => h hh.symm)]
def deadB (n nd w : Nat) (dead : List Int) : Mat × Mat :=
  (dead.zipIdx).foldl (fun s p => (s.1.set p.1.toNat (unitB nd p.2), s.2.set p.1.toNat (zeroB w))) (List.replicate n [], List.replicate n [])
theorem deadB_snoc (n nd w : Nat) (d : List Int) (c : Int) : deadB n nd w (d ++ [c]) = ((deadB n nd w d).1.set c.toNat (unitB nd d.length), (deadB n nd w d).2.set c.toNat (zeroB w)) := by
  unfold deadB
  rw [List.zipIdx_append, List.foldl_append]; simp
theorem dead_ok {n nd w : Nat} {dead : List Int} (hd : ∀ c ∈ dead, 0 ≤ c ∧ c < (n : Int)) (hn : dead.Nodup) : ∀ k, k ≤ dead.length →
    WOk n nd w (· ∈ dead.take k) (deadB n nd w (dead.take k)).1 (deadB n nd w (dead.take k)).2 ∧ ∀ i, (hi : i < k) → (h2 : i < dead.length) → rowB (deadB n nd w (dead.take k)).1 dead[i].toNat = unitB nd i ∧ rowB (deadB n nd w (dead.take k)).2 dead[i].toNat = zeroB w
  | 0, _ => ⟨⟨by simp [deadB], by simp [deadB], fun c hc => by simp at hc⟩, fun i hi => by omega⟩
  | k + 1, hk => by
    obtain ⟨h1, h2⟩ := dead_ok (nd := nd) (w := w) hd hn k (by omega)
    have hk' : k < dead.length := by omega
    have hck := hd _ (List.getElem_mem hk')
    have e : dead.take (k + 1) = dead.take k ++ [dead[k]] := List.take_succ_eq_append_getElem hk'
    have hl : (dead.take k).length = k := by simp; omega
    rw [e, deadB_snoc, hl]
    have w1 := h1.wl; have w2 := h1.ml
    refine ⟨⟨by simp [w1], by simp [w2], fun c hc h0 h3 => ?_⟩, fun i hi hi2 => ?_⟩
    · dsimp only
      rw [row_set (by omega), row_set (by omega)]
      by_cases hcc : dead[k].toNat = c.toNat
      · rw [if_pos hcc, if_pos hcc]; exact ⟨unit_len _ _, by simp [zeroB]⟩
      · rw [if_neg hcc, if_neg hcc]
        refine h1.rw_ c ?_ h0 h3
        rcases List.mem_append.1 hc with hc | hc
        · exact hc
        · rw [List.mem_singleton] at hc; exact absurd (by rw [hc]) hcc
    · dsimp only
      rw [row_set (by omega), row_set (by omega)]
      by_cases hik : i = k
      · subst hik; rw [if_pos rfl, if_pos rfl]; exact ⟨rfl, rfl⟩
      · have hne : dead[k] ≠ dead[i] := fun hh => hik ((List.getElem_inj hn).1 hh).symm
        have := hd _ (List.getElem_mem hi2)
        rw [if_neg (by omega), if_neg (by omega)]
        exact h2 i (by omega) hi2
def fillB (nd : Nat) (known : List Bool) (vals : Mat) (s : Mat × Mat) : Mat × Mat :=
  (s.1.mapIdx fun c r => if known.getD c false then zeroB nd else r, s.2.mapIdx fun c r => if known.getD c false then rowB vals c else r)
theorem row_mapIdx {m : Mat} {f : Nat → Row → Row} {c : Nat} (h : c < m.length) : rowB (m.mapIdx f) c = f c (rowB m c) := by
  rw [row_lt (by simpa using h), row_lt h]; simp
def addR (V : Mat) (r : Row) (a : Row) : Nat → Row
  | 0 => a
  | c + 1 => addB (colB r c) (rowB V c) (addR V r a c)
theorem addR_len {V : Mat} {m : Nat} (r : Row) {a : Row} (ha : a.length = m) : ∀ {c : Nat}, (∀ i, i < c → (rowB V i).length = m) → (addR V r a c).length = m
  | 0, _ => ha
  | c + 1, h => by
    have := addR_len r ha (c := c) fun i hi => h i (by omega)
    rw [addR, add_len (by rw [h c (by omega), this])]; exact this
theorem col_addR {V : Mat} {m : Nat} (r : Row) {a : Row} (ha : a.length = m) (j : Nat) : ∀ {c : Nat}, (∀ i, i < c → (rowB V i).length = m) → colB (addR V r a c) j = colB a j ^^^ dotN (fun i => colB r i) (fun i => colB (rowB V i) j) c
  | 0, _ => by simp [addR, dotN]
  | c + 1, h => by
    have hl := addR_len r ha (c := c) fun i hi => h i (by omega)
    rw [addR, col_add (by rw [h c (by omega), hl]), col_addR r ha j (c := c) fun i hi => h i (by omega), dotN]; ac_rfl
theorem dot_addR {V : Mat} {m : Nat} (r : Row) {a : Row} (ha : a.length = m) (y : Nat → UInt8) (n : Nat) : ∀ {c : Nat}, (∀ i, i < c → (rowB V i).length = m) → dotN (fun j => colB (addR V r a c) j) y n = dotN (fun j => colB a j) y n ^^^ dotN (fun i => colB r i) (fun i => dotN (fun j => colB (rowB V i) j) y n) c
  | 0, _ => by simp [addR, dotN]
  | c + 1, h => by
    have hl := addR_len r ha (c := c) fun i hi => h i (by omega)
    rw [addR, dot_addB (by rw [h c (by omega), hl]), dot_addR r ha y n (c := c) fun i hi => h i (by omega), dotN]; ac_rfl
theorem dotN_xor (f g g' : Nat → UInt8) : ∀ k, dotN f (fun i => g i ^^^ g' i) k = dotN f g k ^^^ dotN f g' k
  | 0 => by simp [dotN]
  | k + 1 => by rw [dotN, dotN, dotN, dotN_xor f g g' k, Gf.mul_xor]; ac_rfl
theorem dotN_mul (t : UInt8) (f g : Nat → UInt8) : ∀ k, dotN f (fun i => Gf.mul t (g i)) k = Gf.mul t (dotN f g k)
  | 0 => by simp [dotN, Gf.mul_zero]
  | k + 1 => by
    rw [dotN, dotN, dotN_mul t f g k, Gf.mul_xor]
    congr 1
    rw [← Gf.mul_assoc, ← Gf.mul_assoc, Gf.mul_comm (f k) t]
theorem dot_ones {n : Nat} (g : Nat → UInt8) : ∀ {l : List Int}, (∀ x ∈ l, 0 ≤ x ∧ x < (n : Int)) → l.Nodup → dotN (fun j => colB (onesI n l) j) g n = xsum (fun c => g c.toNat) l
  | [], _, _ => by
    rw [xsum]; refine dot_zero _ _ n fun j _ => ?_
    rw [col_ones [] (fun x hx => by cases hx) j]; simp
  | c :: l, h, hd => by
    rw [List.nodup_cons] at hd
    have hc := h c (by simp)
    have ih := dot_ones g (l := l) (fun x hx => h x (by simp [hx])) hd.2
    have e1 : dotN (fun j => colB (onesI n (c :: l)) j) g n = dotN (fun j => if (j : Int) ∈ c :: l then 1 else 0) g n := dotN_congr n (fun j _ => col_ones _ h j) fun _ _ => rfl
    have e2 : dotN (fun j => colB (onesI n l) j) g n = dotN (fun j => if (j : Int) ∈ l then 1 else 0) g n := dotN_congr n (fun j _ => col_ones _ (fun x hx => h x (by simp [hx])) j) fun _ _ => rfl
    rw [e1, xsum, ← ih, e2]
    rw [dotN_set (f := fun j => if (j : Int) ∈ l then 1 else 0) (f' := fun j => if (j : Int) ∈ c :: l then 1 else 0) (c := c.toNat) (by rw [if_neg]; rw [show ((c.toNat : Nat) : Int) = c by omega]; exact hd.1) (fun i => by
      by_cases hi : i = c.toNat
      · subst hi; rw [if_pos rfl, if_pos]; rw [show ((c.toNat : Nat) : Int) = c by omega]; simp
      · rw [if_neg hi]
        have : (i : Int) ≠ c := fun hh => hi (by omega)
        simp [this]), if_pos (by omega)]
    ac_rfl
theorem kernel {nd : Nat} {a : Mat} (ha : evenB nd a) (hr : rankB a < nd) : ∃ y : Nat → UInt8, (∃ i, i < nd ∧ y i ≠ 0) ∧ ∀ r ∈ a, dotN (fun j => colB r j) y nd = 0 := by
  have w := way_full ha
  obtain ⟨hev, hlen, htl, hsp, hcnt, ⟨p, p1, p2, p3, p4⟩, hlow⟩ := w
  generalize hT : rankB a = T at *
  generalize (reduceB a (widthB a)).2 = rows at *
  have hfree : ∃ j, j < nd ∧ ∀ i, i < T → p i ≠ j := by
    have key : ∀ T nd : Nat, T < nd → ∀ p : Nat → Nat, (∀ i, i < T → p i < nd) → ∃ j, j < nd ∧ ∀ i, i < T → p i ≠ j := by
      intro T nd hlt p hp
      by_cases hall : ∀ j, j < nd → ∃ i, i < T ∧ p i = j
      · exfalso
        have hsub : ∀ j ∈ List.range nd, j ∈ (List.range T).map p := fun j hj => by
          obtain ⟨i, hi, rfl⟩ := hall j (List.mem_range.1 hj)
          exact List.mem_map.2 ⟨i, List.mem_range.2 hi, rfl⟩
        have := nodup_len List.nodup_range hsub
        simp at this; omega
      · simp only [Classical.not_forall, not_exists, not_and] at hall
        obtain ⟨j, hj, h⟩ := hall
        exact ⟨j, hj, h⟩
    exact key T nd hr p p1
  obtain ⟨j, hj, hpj⟩ := hfree
  have pinj : ∀ i i', i < T → i' < T → p i = p i' → i = i' := fun i i' h1 h2 h3 => by
    rcases Nat.lt_trichotomy i i' with h | h | h
    · have := p4 i i' h h2; omega
    · exact h
    · have := p4 i' i h h1; omega
  let y : Nat → UInt8 := fun c => if c = j then 1 else xsum (fun i => if p i.toNat = c then colB (rowB rows i.toNat) j else 0) ((List.range T).map fun i : Nat => (i : Int))
  have hy : ∀ i, i < T → y (p i) = colB (rowB rows i) j := fun i hi => by
    show (if p i = j then 1 else _) = _
    rw [if_neg (hpj i hi)]
    have hnd : ((List.range T).map fun i : Nat => (i : Int)).Nodup := by
      exact List.Pairwise.map _ (fun a b h hh => h (Int.ofNat_inj.1 hh)) List.nodup_range
    rw [xsum_pick _ hnd (c := (i : Int)) (List.mem_map.2 ⟨i, List.mem_range.2 hi, rfl⟩), xsum_zero, UInt8.xor_zero]
    · simp
    · intro c hc
      rw [List.mem_filter] at hc
      obtain ⟨i', hi', rfl⟩ := List.mem_map.1 hc.1
      have hne : i' ≠ i := fun hh => by subst hh; simp at hc
      rw [Int.toNat_natCast, if_neg fun hh => hne (pinj i' i (List.mem_range.1 hi') hi hh)]
  have hy0 : ∀ c, c ≠ j → (∀ i, i < T → p i ≠ c) → y c = 0 := fun c hc hp => by
    show (if c = j then 1 else _) = _
    rw [if_neg hc, xsum_zero]
    intro d hd
    obtain ⟨i', hi', rfl⟩ := List.mem_map.1 hd
    rw [Int.toNat_natCast, if_neg (hp i' (List.mem_range.1 hi'))]
  have hyj : y j = 1 := by show (if j = j then 1 else _) = _; rw [if_pos rfl]
  refine ⟨y, ⟨j, hj, by rw [hyj]; decide⟩, fun r hr' => ?_⟩
  refine Span.lin hev (fun r => dotN (fun c => colB r c) y nd) (dot_zero _ _ nd fun c _ => col_zero _ _) (fun c x z h1 h2 => dot_addB (by omega) c y nd) (fun r hr => ?_) ((hsp r).2 (Span.row ha hr'))
  obtain ⟨k, hk, rfl⟩ := row_of_mem hr
  by_cases hkT : k < T
  · -- the row's own beginning, and j
    have hf : ∀ c, c < nd → colB (rowB rows k) c = 0 ∨ y c = 0 ∨ c = p k ∨ c = j := fun c hc => by
      by_cases h1 : c = j
      · exact .inr (.inr (.inr h1))
      · by_cases h2 : ∃ i, i < T ∧ p i = c
        · obtain ⟨i, hi, rfl⟩ := h2
          by_cases hik : k = i
          · subst hik; exact .inr (.inr (.inl rfl))
          · refine .inl ?_; rw [p2 i hi k hk, if_neg hik]
        · exact .inr (.inl (hy0 c h1 fun i hi hh => h2 ⟨i, hi, hh⟩))
    have hpk := p1 k hkT
    have hone : colB (rowB rows k) (p k) = 1 := by rw [p2 k hkT k hk, if_pos rfl]
    have hne : p k ≠ j := hpj k hkT
    have key : ∀ m, m ≤ nd → dotN (fun c => colB (rowB rows k) c) y m = (if p k < m then colB (rowB rows k) j else 0) ^^^ (if j < m then colB (rowB rows k) j else 0) := by
      intro m
      induction m with
      | zero => intro _; simp [dotN]
      | succ m ih =>
        intro hm
        rw [dotN, ih (by omega)]
        by_cases h1 : m = p k
        · have hmj : m ≠ j := by omega
          rw [h1, hone, Gf.one_mul, hy k hkT]
          rw [if_neg (Nat.lt_irrefl _), if_pos (Nat.lt_succ_self _)]
          by_cases h3 : j < p k
          · rw [if_pos h3, if_pos (by omega)]; ac_rfl
          · rw [if_neg h3, if_neg (by omega)]; ac_rfl
        · by_cases h2 : m = j
          · rw [h2, hyj, Gf.mul_one]
            rw [if_neg (Nat.lt_irrefl j), if_pos (Nat.lt_succ_self j), UInt8.xor_zero]
            by_cases h3 : p k < j
            · rw [if_pos h3, if_pos (by omega)]
            · rw [if_neg h3, if_neg (by omega)]
          · have hz : Gf.mul (colB (rowB rows k) m) (y m) = 0 := by
              rcases hf m (by omega) with h | h | h | h
              · rw [h, Gf.zero_mul]
              · rw [h, Gf.mul_zero]
              · exact absurd h h1
              · exact absurd h h2
            rw [hz, UInt8.xor_zero]
            have a1 : (p k < m + 1) ↔ (p k < m) := by omega
            have a2 : (j < m + 1) ↔ (j < m) := by omega
            simp only [a1, a2]
    rw [key nd (Nat.le_refl _), if_pos hpk, if_pos hj, xor_self']
  · exact dot_zero _ _ nd fun c hc => hlow k (by omega) hk c hc
end Wl
namespace Wl
def denseA (n nd : Nat) (rest : List EqL) (W : Mat) (left : List Int) (ahead : Mat) : Mat := (left.map fun i => addC W (zeroB nd) (rest.getD i.toNat ([], [])).1) ++ ahead.map fun r => addR W r (zeroB nd) n
def denseB (n w : Nat) (rest : List EqL) (M : Mat) (left : List Int) (ahead : Mat) : Mat := (left.map fun i => addC M (rest.getD i.toNat ([], [])).2 (rest.getD i.toNat ([], [])).1) ++ ahead.map fun r => addR M r (zeroB w) n
def putB (nd : Nat) (known : List Bool) (vals : Mat) (W M D : Mat) : Mat := vals.mapIdx fun c r => if known.getD c false then r else addR D (rowB W c) (rowB M c) nd
def allA (n : Nat) (l : List EqL) (ahead : Mat) : Mat := ahead ++ l.map fun e => onesI n e.1
def allB (w : Nat) (l : List EqL) (ahead : Mat) : Mat := List.replicate ahead.length (zeroB w) ++ l.map Prod.snd
def at_ (X : Mat) (k : Nat) (c : Int) : UInt8 := colB (rowB X c.toNat) k
section
variable {n w : Nat} {l : List EqL} {ahead : Mat}
theorem allA_even (hA : evenB n ahead) : evenB n (allA n l ahead) := fun r hr => by
  rcases List.mem_append.1 hr with hr | hr
  · exact hA r hr
  · obtain ⟨e, _, rfl⟩ := List.mem_map.1 hr; exact ones_len _ _
theorem allB_even (hl : ∀ e ∈ l, EqOk n w e) : evenB w (allB w l ahead) := fun r hr => by
  rcases List.mem_append.1 hr with hr | hr
  · rw [(List.mem_replicate.1 hr).2]; simp [zeroB]
  · obtain ⟨e, he, rfl⟩ := List.mem_map.1 hr; exact (hl e he).len
theorem all_len : (allA n l ahead).length = (allB w l ahead).length := by simp [allA, allB]
theorem solves_all (hl : ∀ e ∈ l, EqOk n w e) {X : Mat} : solves n w (allA n l ahead) (allB w l ahead) X ↔ X.length = n ∧ evenB w X ∧ ∀ k, k < w → (∀ e ∈ l, Sat 1 k (at_ X k) e) ∧ ∀ r ∈ ahead, dotN (fun j => colB r j) (fun c => colB (rowB X c) k) n = 0 := by
  unfold solves
  refine ⟨fun ⟨h1, h2, h3⟩ => ⟨h1, h2, fun k hk => ⟨fun e he => ?_, fun r hr => ?_⟩⟩, fun ⟨h1, h2, h3⟩ => ⟨h1, h2, fun i hi => ?_⟩⟩
  · obtain ⟨i, hi, rfl⟩ := List.getElem_of_mem he
    have := h3 (ahead.length + i) (by simp [allA]; omega)
    have e1 : rowB (allA n l ahead) (ahead.length + i) = onesI n l[i].1 := by rw [row_lt (by simp [allA]; omega)]; simp [allA]
    have e2 : rowB (allB w l ahead) (ahead.length + i) = l[i].2 := by rw [row_lt (by simp [allB]; omega)]; simp [allB]
    rw [e1, e2] at this
    have hc := congrArg (fun r => colB r k) this
    rw [col_dotR h2 h1 _ k n (Nat.le_refl _), dot_ones _ (hl _ he).cols (hl _ he).nodup] at hc
    unfold Sat; rw [Gf.one_mul]; exact hc
  · obtain ⟨i, hi, rfl⟩ := List.getElem_of_mem hr
    have := h3 i (by simp [allA]; omega)
    have e1 : rowB (allA n l ahead) i = ahead[i] := by rw [row_lt (by simp [allA]; omega)]; simp [allA, List.getElem_append_left hi]
    have e2 : rowB (allB w l ahead) i = zeroB w := by rw [row_lt (by simp [allB]; omega)]; simp [allB, hi]
    rw [e1, e2] at this
    have hc := congrArg (fun r => colB r k) this
    rw [col_dotR h2 h1 _ k n (Nat.le_refl _), col_zero] at hc
    exact hc
  · have hlen : (rowB (allB w l ahead) i).length = w := even_row (allB_even hl) (by rw [← all_len (n := n)]; exact hi)
    refine row_ext (n := w) (dotR_len h2 h1 _ n (Nat.le_refl _)) hlen fun k hk => ?_
    rw [col_dotR h2 h1 _ k n (Nat.le_refl _)]
    simp only [allA, List.length_append, List.length_map] at hi
    by_cases hi2 : i < ahead.length
    · have e1 : rowB (allA n l ahead) i = ahead[i] := by rw [row_lt (by simp [allA]; omega)]; simp [allA, List.getElem_append_left hi2]
      have e2 : rowB (allB w l ahead) i = zeroB w := by rw [row_lt (by simp [allB]; omega)]; simp [allB, hi2]
      rw [e1, e2, col_zero]
      exact (h3 k hk).2 _ (List.getElem_mem hi2)
    · obtain ⟨d, rfl⟩ : ∃ d, i = ahead.length + d := ⟨i - ahead.length, by omega⟩
      have hd : d < l.length := by omega
      have e1 : rowB (allA n l ahead) (ahead.length + d) = onesI n l[d].1 := by rw [row_lt (by simp [allA]; omega)]; simp [allA]
      have e2 : rowB (allB w l ahead) (ahead.length + d) = l[d].2 := by rw [row_lt (by simp [allB]; omega)]; simp [allB]
      have he := hl _ (List.getElem_mem hd)
      rw [e1, e2, dot_ones _ he.cols he.nodup]
      have := (h3 k hk).1 _ (List.getElem_mem hd)
      unfold Sat at this; rw [Gf.one_mul] at this; exact this
end
structure DecSt (n w : Nat) (l : List EqL) (ahead : Mat) (known : List Bool) (vals : Mat) (dead left : List Int) (W M : Mat) : Prop where
  eqs : ∀ e ∈ l, EqOk n w e
  ahd : evenB n ahead
  pinv : PInv n w l known vals
  calm : clashB known vals l = false
  deadR : ∀ c ∈ dead, 0 ≤ c ∧ c < (n : Int)
  deadN : dead.Nodup
  deadK : ∀ c ∈ dead, kn known c = false
  lens : W.length = n ∧ M.length = n ∧ ∀ c : Nat, c < n → (rowB W c).length = dead.length ∧ (rowB M c).length = w
  evKnown : ∀ t k y, ∀ c : Int, 0 ≤ c → c < (n : Int) → kn known c = true → ev t k dead.length W M y c = Gf.mul t (colB (rowB vals c.toNat) k)
  evDead : ∀ t k y, ∀ i, (h : i < dead.length) → ev t k dead.length W M y dead[i] = y i
  evRest : ∀ t k y, k < w → (∀ i ∈ left, Sat t k (ev t k dead.length W M y) ((restB' known vals l).getD i.toNat ([], []))) → ∀ e ∈ restB' known vals l, Sat t k (ev t k dead.length W M y) e
  leftR : ∀ i ∈ left, 0 ≤ i ∧ i < ((restB' known vals l).length : Int)
  evAll : ∀ t k x, k < w → (∀ c : Int, 0 ≤ c → c < (n : Int) → kn known c = true → x c = Gf.mul t (colB (rowB vals c.toNat) k)) → (∀ e ∈ restB' known vals l, Sat t k x e) → ∀ c : Int, 0 ≤ c → c < (n : Int) → x c = ev t k dead.length W M (fun i => x (dead.getD i 0)) c
section
variable {n w : Nat} {l : List EqL} {ahead : Mat} {known : List Bool} {vals : Mat} {dead left : List Int} {W M : Mat}
theorem rest_ok (h : PInv n w l known vals) (hl : ∀ e ∈ l, EqOk n w e) : ∀ e ∈ restB' known vals l, EqOk n w e := fun e he => by
  obtain ⟨e0, he0, rfl⟩ := List.mem_map.1 (List.mem_filter.1 he).1
  exact h.leftOk (hl e0 he0)
theorem xor_eq_zero {a b : UInt8} : a ^^^ b = 0 ↔ a = b := xor_zero_iff
theorem DecSt.left_iff (S : DecSt n w l ahead known vals dead left W M) {i : Int} (hi : i ∈ left) (t : UInt8) (k : Nat) (y : Nat → UInt8) :
    dotN (fun j => colB (addC W (zeroB dead.length) ((restB' known vals l).getD i.toNat ([], [])).1) j) y dead.length = Gf.mul t (colB (addC M ((restB' known vals l).getD i.toNat ([], [])).2 ((restB' known vals l).getD i.toNat ([], [])).1) k) ↔ Sat t k (ev t k dead.length W M y) ((restB' known vals l).getD i.toNat ([], [])) := by
  have hir := S.leftR i hi
  have hlt : i.toNat < (restB' known vals l).length := by omega
  have er : (restB' known vals l).getD i.toNat ([], []) = (restB' known vals l)[i.toNat] := by rw [List.getD_eq_getElem?_getD, List.getElem?_eq_getElem hlt]; rfl
  have hok := rest_ok S.pinv S.eqs _ (List.getElem_mem hlt)
  rw [er]
  generalize (restB' known vals l)[i.toNat] = e at *
  have hz : (zeroB dead.length).length = dead.length := by simp [zeroB]
  have h1 : ∀ c ∈ e.1, (rowB W c.toNat).length = dead.length := fun c hc => ((S.lens.2.2 c.toNat) (by have := hok.cols c hc; omega)).1
  have h2 : ∀ c ∈ e.1, (rowB M c.toNat).length = w := fun c hc => ((S.lens.2.2 c.toNat) (by have := hok.cols c hc; omega)).2
  have := ev_addC hz hok.len h1 h2 t k y
  rw [dot_zero _ _ dead.length fun j _ => col_zero _ _, UInt8.zero_xor] at this
  rw [← xor_eq_zero, this]
  unfold Sat
  rw [xor_eq_zero]
  exact eq_comm
theorem DecSt.ahead_iff (S : DecSt n w l ahead known vals dead left W M) (r : Row) (t : UInt8) (k : Nat) (y : Nat → UInt8) :
    dotN (fun j => colB (addR W r (zeroB dead.length) n) j) y dead.length = Gf.mul t (colB (addR M r (zeroB w) n) k) ↔ dotN (fun j => colB r j) (fun c => ev t k dead.length W M y (c : Int)) n = 0 := by
  have h1 := dot_addR (V := W) (m := dead.length) r (a := zeroB dead.length) (by simp [zeroB]) y dead.length (c := n) fun i hi => (S.lens.2.2 i hi).1
  have h2 := col_addR (V := M) (m := w) r (a := zeroB w) (by simp [zeroB]) k (c := n) fun i hi => (S.lens.2.2 i hi).2
  rw [h1, h2, dot_zero _ _ dead.length fun j _ => col_zero _ _, col_zero, UInt8.zero_xor, UInt8.zero_xor, ← xor_eq_zero, ← dotN_mul, ← dotN_xor]
  have : (fun c : Nat => ev t k dead.length W M y (c : Int)) = fun i => dotN (fun j => colB (rowB W i) j) y dead.length ^^^ Gf.mul t (colB (rowB M i) k) := by
    funext c; unfold ev; rw [Int.toNat_natCast]
  rw [this]
theorem DecSt.up (S : DecSt n w l ahead known vals dead left W M) {t : UInt8} {k : Nat} {y : Nat → UInt8} (hk : k < w)
    (hd : ∀ i, i < (denseA n dead.length (restB' known vals l) W left ahead).length → dotN (fun j => colB (rowB (denseA n dead.length (restB' known vals l) W left ahead) i) j) y dead.length = Gf.mul t (colB (rowB (denseB n w (restB' known vals l) M left ahead) i) k)) :
    (∀ e ∈ l, Sat t k (ev t k dead.length W M y) e) ∧ ∀ r ∈ ahead, dotN (fun j => colB r j) (fun c => ev t k dead.length W M y (c : Int)) n = 0 := by
  refine ⟨(peel_iff S.pinv S.eqs S.calm hk).2 ⟨fun c h0 h1 h2 => S.evKnown t k y c h0 h1 h2, S.evRest t k y hk fun i hi => ?_⟩, fun r hr => ?_⟩
  · obtain ⟨j, hj, rfl⟩ := List.getElem_of_mem hi
    have := hd j (by simp [denseA]; omega)
    have e1 : rowB (denseA n dead.length (restB' known vals l) W left ahead) j = addC W (zeroB dead.length) ((restB' known vals l).getD left[j].toNat ([], [])).1 := by
      rw [row_lt (by simp [denseA]; omega)]; simp [denseA, hj]
    have e2 : rowB (denseB n w (restB' known vals l) M left ahead) j = addC M ((restB' known vals l).getD left[j].toNat ([], [])).2 ((restB' known vals l).getD left[j].toNat ([], [])).1 := by
      rw [row_lt (by simp [denseB]; omega)]; simp [denseB, hj]
    rw [e1, e2] at this
    exact (S.left_iff hi t k y).1 this
  · obtain ⟨j, hj, rfl⟩ := List.getElem_of_mem hr
    have := hd (left.length + j) (by simp [denseA]; omega)
    have e1 : rowB (denseA n dead.length (restB' known vals l) W left ahead) (left.length + j) = addR W ahead[j] (zeroB dead.length) n := by
      rw [row_lt (by simp [denseA]; omega)]; simp [denseA]
    have e2 : rowB (denseB n w (restB' known vals l) M left ahead) (left.length + j) = addR M ahead[j] (zeroB w) n := by
      rw [row_lt (by simp [denseB]; omega)]; simp [denseB]
    rw [e1, e2] at this
    exact (S.ahead_iff _ t k y).1 this
theorem DecSt.down (S : DecSt n w l ahead known vals dead left W M) {t : UInt8} {k : Nat} {x : Int → UInt8} (hk : k < w) (hs : ∀ e ∈ l, Sat t k x e) (ha : ∀ r ∈ ahead, dotN (fun j => colB r j) (fun c => x (c : Int)) n = 0) :
    (∀ c : Int, 0 ≤ c → c < (n : Int) → x c = ev t k dead.length W M (fun i => x (dead.getD i 0)) c) ∧
    ∀ i, i < (denseA n dead.length (restB' known vals l) W left ahead).length → dotN (fun j => colB (rowB (denseA n dead.length (restB' known vals l) W left ahead) i) j) (fun i => x (dead.getD i 0)) dead.length = Gf.mul t (colB (rowB (denseB n w (restB' known vals l) M left ahead) i) k) := by
  obtain ⟨p1, p2⟩ := (peel_iff S.pinv S.eqs S.calm hk).1 hs
  have hx := S.evAll t k x hk p1 p2
  refine ⟨hx, fun i hi => ?_⟩
  simp only [denseA, List.length_append, List.length_map] at hi
  by_cases hi2 : i < left.length
  · have e1 : rowB (denseA n dead.length (restB' known vals l) W left ahead) i = addC W (zeroB dead.length) ((restB' known vals l).getD left[i].toNat ([], [])).1 := by
      rw [row_lt (by simp [denseA]; omega)]; simp [denseA, hi2]
    have e2 : rowB (denseB n w (restB' known vals l) M left ahead) i = addC M ((restB' known vals l).getD left[i].toNat ([], [])).2 ((restB' known vals l).getD left[i].toNat ([], [])).1 := by
      rw [row_lt (by simp [denseB]; omega)]; simp [denseB, hi2]
    rw [e1, e2]
    refine (S.left_iff (List.getElem_mem hi2) t k _).2 ?_
    have hir := S.leftR _ (List.getElem_mem hi2)
    have hlt : left[i].toNat < (restB' known vals l).length := by omega
    have er : (restB' known vals l).getD left[i].toNat ([], []) = (restB' known vals l)[left[i].toNat] := by rw [List.getD_eq_getElem?_getD, List.getElem?_eq_getElem hlt]; rfl
    rw [er]
    have h5 := p2 _ (List.getElem_mem hlt)
    have hok := rest_ok S.pinv S.eqs _ (List.getElem_mem hlt)
    unfold Sat at h5 ⊢
    rw [← h5]
    exact xsum_congr fun c hc => (hx c (hok.cols c hc).1 (hok.cols c hc).2).symm
  · obtain ⟨d, rfl⟩ : ∃ d, i = left.length + d := ⟨i - left.length, by omega⟩
    have hd : d < ahead.length := by omega
    have e1 : rowB (denseA n dead.length (restB' known vals l) W left ahead) (left.length + d) = addR W ahead[d] (zeroB dead.length) n := by
      rw [row_lt (by simp [denseA]; omega)]; simp [denseA]
    have e2 : rowB (denseB n w (restB' known vals l) M left ahead) (left.length + d) = addR M ahead[d] (zeroB w) n := by
      rw [row_lt (by simp [denseB]; omega)]; simp [denseB]
    rw [e1, e2]
    refine (S.ahead_iff _ t k _).2 ?_
    rw [← ha _ (List.getElem_mem hd)]
    exact dotN_congr n (fun _ _ => rfl) fun c hc => (hx (c : Int) (by omega) (by omega)).symm
theorem dense_even (S : DecSt n w l ahead known vals dead left W M) : evenB dead.length (denseA n dead.length (restB' known vals l) W left ahead) ∧ evenB w (denseB n w (restB' known vals l) M left ahead) := by
  have key : ∀ i ∈ left, EqOk n w ((restB' known vals l).getD i.toNat ([], [])) := fun i hi => by
    have hir := S.leftR i hi
    have hlt : i.toNat < (restB' known vals l).length := by omega
    rw [List.getD_eq_getElem?_getD, List.getElem?_eq_getElem hlt]
    exact rest_ok S.pinv S.eqs _ (List.getElem_mem hlt)
  constructor
  · intro r hr
    rcases List.mem_append.1 hr with hr | hr
    · obtain ⟨i, hi, rfl⟩ := List.mem_map.1 hr
      exact addC_len (by simp [zeroB]) fun c hc => ((S.lens.2.2 c.toNat) (by have := (key i hi).cols c hc; omega)).1
    · obtain ⟨x, hx, rfl⟩ := List.mem_map.1 hr
      exact addR_len x (by simp [zeroB]) fun i hi => (S.lens.2.2 i hi).1
  · intro r hr
    rcases List.mem_append.1 hr with hr | hr
    · obtain ⟨i, hi, rfl⟩ := List.mem_map.1 hr
      exact addC_len (key i hi).len fun c hc => ((S.lens.2.2 c.toNat) (by have := (key i hi).cols c hc; omega)).2
    · obtain ⟨x, hx, rfl⟩ := List.mem_map.1 hr
      exact addR_len x (by simp [zeroB]) fun i hi => (S.lens.2.2 i hi).2
theorem dense_len : (denseA n dead.length (restB' known vals l) W left ahead).length = (denseB n w (restB' known vals l) M left ahead).length := by simp [denseA, denseB]
theorem DecSt.rank (S : DecSt n w l ahead known vals dead left W M) (hw : 1 ≤ w) (hr : rankB (allA n l ahead) = n) : rankB (denseA n dead.length (restB' known vals l) W left ahead) = dead.length := by
  obtain ⟨e1, e2⟩ := dense_even S
  have hle := rank_le_cols e1
  by_cases hlt : rankB (denseA n dead.length (restB' known vals l) W left ahead) < dead.length
  · exfalso
    obtain ⟨y, ⟨i, hi, hy⟩, hz⟩ := kernel e1 hlt
    have hup := S.up (t := 0) (k := 0) (y := y) hw fun i hi => by rw [hz _ (mem_row hi), Gf.zero_mul]
    have hA := allA_even (l := l) S.ahd
    have hB : evenB 1 (List.replicate (allA n l ahead).length (zeroB 1)) := fun r hr => by rw [(List.mem_replicate.1 hr).2]; simp [zeroB]
    have hlen : (allA n l ahead).length = (List.replicate (allA n l ahead).length (zeroB 1)).length := by simp
    have s0 : solves n 1 (allA n l ahead) (List.replicate (allA n l ahead).length (zeroB 1)) (List.replicate n (zeroB 1)) := by
      have hev : evenB 1 (List.replicate n (zeroB 1)) := fun r hr => by rw [(List.mem_replicate.1 hr).2]; simp [zeroB]
      refine ⟨by simp, hev, fun i hi => ?_⟩
      refine row_ext (n := 1) (dotR_len hev (by simp) _ n (Nat.le_refl _)) (even_row hB (by simpa using hi)) fun k hk => ?_
      rw [col_dotR hev (by simp) _ k n (Nat.le_refl _)]
      have e3 : rowB (List.replicate (allA n l ahead).length (zeroB 1)) i = zeroB 1 := by rw [row_lt (by simpa using hi)]; simp
      rw [e3, col_zero]
      have : ∀ k', k' ≤ n → dotN (fun j => colB (rowB (allA n l ahead) i) j) (fun c => colB (rowB (List.replicate n (zeroB 1)) c) k) k' = 0 := by
        intro k'
        induction k' with
        | zero => intro _; rfl
        | succ k' ih =>
          intro hk'
          have e4 : rowB (List.replicate n (zeroB 1)) k' = zeroB 1 := by rw [row_lt (by simp; omega)]; simp
          rw [dotN, ih (by omega), e4, col_zero, Gf.mul_zero]; rfl
      exact this n (Nat.le_refl _)
    have s1 : solves n 1 (allA n l ahead) (List.replicate (allA n l ahead).length (zeroB 1)) ((List.range n).map fun c : Nat => [ev 0 0 dead.length W M y (c : Int)]) := by
      have hev : evenB 1 ((List.range n).map fun c : Nat => [ev 0 0 dead.length W M y (c : Int)]) := fun r hr => by obtain ⟨c, _, rfl⟩ := List.mem_map.1 hr; rfl
      have hrow : ∀ c : Nat, c < n → rowB ((List.range n).map fun c : Nat => [ev 0 0 dead.length W M y (c : Int)]) c = [ev 0 0 dead.length W M y (c : Int)] := fun c hc => by rw [row_lt (by simpa using hc)]; simp
      refine ⟨by simp, hev, fun i hi => ?_⟩
      refine row_ext (n := 1) (dotR_len hev (by simp) _ n (Nat.le_refl _)) (even_row hB (by simpa using hi)) fun k hk => ?_
      have hk0 : k = 0 := by omega
      subst hk0
      rw [col_dotR hev (by simp) _ 0 n (Nat.le_refl _)]
      have e3 : rowB (List.replicate (allA n l ahead).length (zeroB 1)) i = zeroB 1 := by rw [row_lt (by simpa using hi)]; simp
      rw [e3, col_zero]
      have e5 : dotN (fun j => colB (rowB (allA n l ahead) i) j) (fun c => colB (rowB ((List.range n).map fun c : Nat => [ev 0 0 dead.length W M y (c : Int)]) c) 0) n = dotN (fun j => colB (rowB (allA n l ahead) i) j) (fun c => ev 0 0 dead.length W M y (c : Int)) n :=
        dotN_congr n (fun _ _ => rfl) fun c hc => by rw [hrow c hc]; rfl
      rw [e5]
      have hmm : rowB (allA n l ahead) i ∈ ahead ++ l.map fun e => onesI n e.1 := mem_row hi
      obtain hm | hm := List.mem_append.1 hmm
      · exact hup.2 _ hm
      · obtain ⟨e, he, hee⟩ := List.mem_map.1 hm
        rw [← hee, dot_ones _ (S.eqs e he).cols (S.eqs e he).nodup]
        have h6 := hup.1 e he
        unfold Sat at h6
        rw [Gf.zero_mul] at h6
        refine Eq.trans (xsum_congr fun c hc => ?_) h6
        have := (S.eqs e he).cols c hc
        rw [show ((c.toNat : Nat) : Int) = c by omega]
    have u0 := (sol_unique hlen hA hB hr s0).1
    have u1 := (sol_unique hlen hA hB hr s1).1
    have heq := u1.trans u0.symm
    have hdi := S.deadR _ (List.getElem_mem hi)
    have h7 := congrArg (fun m => colB (rowB m dead[i].toNat) 0) heq
    rw [row_lt (by simp; omega), row_lt (by simp; omega)] at h7
    simp only [List.getElem_map, List.getElem_range, List.getElem_replicate, col_zero] at h7
    rw [show ((dead[i].toNat : Nat) : Int) = dead[i] by omega] at h7
    have h8 : colB [ev 0 0 dead.length W M y dead[i]] 0 = ev 0 0 dead.length W M y dead[i] := rfl
    rw [h8, S.evDead 0 0 y i hi] at h7
    exact hy h7
  · omega
theorem put_row (S : DecSt n w l ahead known vals dead left W M) {D : Mat} (hD : D.length = dead.length) (eD : evenB w D) {c : Nat} (hc : c < n) :
    (rowB (putB dead.length known vals W M D) c).length = w ∧ ∀ k, colB (rowB (putB dead.length known vals W M D) c) k = ev 1 k dead.length W M (fun i => colB (rowB D i) k) (c : Int) := by
  have hv := S.pinv.vlen
  have hrow : rowB (putB dead.length known vals W M D) c = if known.getD c false then rowB vals c else addR D (rowB W c) (rowB M c) dead.length := by
    unfold putB; rw [row_mapIdx (by omega)]
  have hl := S.lens.2.2 c hc
  rw [hrow]
  cases hkn : known.getD c false with
  | true =>
    rw [if_pos rfl]
    refine ⟨by have := S.pinv.row c hc; rw [hkn] at this; simpa using this, fun k => ?_⟩
    have := S.evKnown 1 k (fun i => colB (rowB D i) k) (c : Int) (by omega) (by omega) (by unfold kn; rw [Int.toNat_natCast]; exact hkn)
    rw [this, Int.toNat_natCast, Gf.one_mul]
  | false =>
    rw [if_neg (by simp)]
    have hDi : ∀ i, i < dead.length → (rowB D i).length = w := fun i hi => even_row eD (by omega)
    refine ⟨addR_len _ hl.2 hDi, fun k => ?_⟩
    rw [col_addR _ hl.2 k hDi]
    unfold ev; rw [Int.toNat_natCast, Gf.one_mul, UInt8.xor_comm]
theorem put_len (h : vals.length = n) {D : Mat} : (putB dead.length known vals W M D).length = n := by simp [putB, h]
theorem DecSt.put_solves (S : DecSt n w l ahead known vals dead left W M) {D : Mat} (hs : solves dead.length w (denseA n dead.length (restB' known vals l) W left ahead) (denseB n w (restB' known vals l) M left ahead) D) : solves n w (allA n l ahead) (allB w l ahead) (putB dead.length known vals W M D) := by
  obtain ⟨hD, eD, hsd⟩ := hs
  obtain ⟨e1, e2⟩ := dense_even S
  have hpl := put_len (dead := dead) (known := known) (W := W) (M := M) S.pinv.vlen (D := D)
  refine (solves_all S.eqs).2 ⟨hpl, fun r hr => ?_, fun k hk => ?_⟩
  · obtain ⟨c, hc, rfl⟩ := row_of_mem hr
    exact (put_row S hD eD (by omega)).1
  · have hu := S.up (t := 1) (k := k) (y := fun i => colB (rowB D i) k) hk fun i hi => by
      have := congrArg (fun r => colB r k) (hsd i hi)
      rw [col_dotR eD hD _ k dead.length (Nat.le_refl _)] at this
      rw [this, Gf.one_mul]
    refine ⟨fun e he => ?_, fun r hr => ?_⟩
    · have h3 := hu.1 e he
      unfold Sat at h3 ⊢
      rw [← h3]
      refine xsum_congr fun c hc => ?_
      have hcc := (S.eqs e he).cols c hc
      unfold at_
      rw [(put_row S hD eD (show c.toNat < n by omega)).2 k, show ((c.toNat : Nat) : Int) = c by omega]
    · rw [← hu.2 r hr]
      exact dotN_congr n (fun _ _ => rfl) fun c hc => (put_row S hD eD hc).2 k
theorem DecSt.dead_solves (S : DecSt n w l ahead known vals dead left W M) {X : Mat} (hs : solves n w (allA n l ahead) (allB w l ahead) X) : solves dead.length w (denseA n dead.length (restB' known vals l) W left ahead) (denseB n w (restB' known vals l) M left ahead) (dead.map fun c => rowB X c.toNat) := by
  obtain ⟨hX, eX, hk⟩ := (solves_all S.eqs).1 hs
  obtain ⟨e1, e2⟩ := dense_even S
  have eD : evenB w (dead.map fun c => rowB X c.toNat) := fun r hr => by
    obtain ⟨c, hc, rfl⟩ := List.mem_map.1 hr
    have := S.deadR c hc
    exact even_row eX (by omega)
  have hDl : (dead.map fun c => rowB X c.toNat).length = dead.length := by simp
  refine ⟨hDl, eD, fun i hi => row_ext (n := w) (dotR_len eD hDl _ _ (Nat.le_refl _)) (even_row e2 (by rw [← dense_len (n := n) (w := w)]; exact hi)) fun k hkw => ?_⟩
  rw [col_dotR eD hDl _ k dead.length (Nat.le_refl _)]
  have h3 := (S.down (t := 1) (x := at_ X k) hkw (hk k hkw).1 (fun r hr => by
    have := (hk k hkw).2 r hr
    rw [← this]; exact dotN_congr n (fun _ _ => rfl) fun c hc => by unfold at_; rw [Int.toNat_natCast])).2 i hi
  rw [Gf.one_mul] at h3
  rw [← h3]
  refine dotN_congr _ (fun _ _ => rfl) fun j hj => ?_
  unfold at_
  rw [row_lt (by simpa using hj), List.getD_eq_getElem?_getD, List.getElem?_eq_getElem hj]
  simp
end
end Wl
namespace Wl
def knownRows (known : List Bool) (i : Nat) : List (List Int) := ((List.range i).filter fun c => known.getD c false).map fun c : Nat => [(c : Int)]
theorem knownRows_succ (known : List Bool) (i : Nat) : knownRows known (i + 1) = knownRows known i ++ if known.getD i false then [[(i : Int)]] else [] := by
  unfold knownRows
  rw [List.range_succ, List.filter_append, List.map_append]
  cases h : known.getD i false <;> simp only [List.filter_cons, h, List.filter_nil] <;> rfl
theorem knownRows_len (known : List Bool) (i : Nat) : (knownRows known i).length ≤ i := by
  unfold knownRows
  rw [List.length_map]
  exact Nat.le_trans (List.length_filter_le _ _) (by simp)
def rowsOf (R : List EqL) (known : List Bool) (n : Nat) : List (List Int) := R.map Prod.fst ++ knownRows known n
def planOf (R : List EqL) (known : List Bool) (n : Nat) : Pl := planL n (rowsOf R known n)
def stepsOf (R : List EqL) (known : List Bool) (n : Nat) : List (Int × Int) := (planOf R known n).steps.filter fun x => decide (x.1 < R.length)
def leftOf (R : List EqL) (known : List Bool) (n : Nat) : List Int := (leftL (planOf R known n).used (rowsOf R known n).length).filter fun x => decide (x < R.length)
theorem known_row {known : List Bool} {n : Nat} {r : List Int} (h : r ∈ knownRows known n) : ∃ c : Nat, r = [(c : Int)] ∧ c < n ∧ known.getD c false = true := by
  obtain ⟨c, hc, rfl⟩ := List.mem_map.1 h
  rw [List.mem_filter, List.mem_range] at hc
  exact ⟨c, rfl, hc.1, hc.2⟩
theorem steps_mem {rows : List (List Int)} : ∀ {steps : List (Int × Int)} {D U : Int → Prop}, goodSteps rows D U steps → ∀ i c, (i, c) ∈ steps → (0 ≤ i ∧ i < rows.length) ∧ c ∈ rows.getD i.toNat []
  | [], _, _, _, _, _, h => by cases h
  | (i', c') :: t, D, U, hg, i, c, h => by
    obtain ⟨h1, _, _, h4, _, h6⟩ := hg
    rcases List.mem_cons.1 h with h | h
    · injection h with a b; subst a; subst b; exact ⟨h1, h4⟩
    · exact steps_mem h6 i c h
section
variable {n w : Nat} {l : List EqL} {ahead : Mat} {known : List Bool} {vals : Mat}
theorem rows_in (hR : ∀ e ∈ restB' known vals l, EqOk n w e) : ∀ r ∈ rowsOf (restB' known vals l) known n, ∀ c ∈ r, 0 ≤ c ∧ c < (n : Int) := fun r hr c hc => by
  rcases List.mem_append.1 hr with hr | hr
  · obtain ⟨e, he, rfl⟩ := List.mem_map.1 hr; exact (hR e he).cols c hc
  · obtain ⟨d, rfl, hd, _⟩ := known_row hr
    rw [List.mem_singleton] at hc; subst hc; omega
theorem plan_good (hl : ∀ e ∈ l, EqOk n w e) (hI : PInv n w l known vals) : goodR ((restB' known vals l).map Prod.fst) (· ∈ (planOf (restB' known vals l) known n).dead) (stepsOf (restB' known vals l) known n) := by
  have hR := rest_ok hI hl
  obtain ⟨_, _, _, _, _, g⟩ := planL_ok (rows_in hR)
  have := good_filter (R := (restB' known vals l).map Prod.fst) (S := knownRows known n) (K := fun c => kn known c = true) (fun r hr c hc => ?_) (fun r hr c hc => ?_) g (D' := (· ∈ (planOf (restB' known vals l) known n).dead)) fun c _ => Iff.rfl
  · rw [List.length_map] at this; exact this
  · obtain ⟨e, he, rfl⟩ := List.mem_map.1 hr
    obtain ⟨e0, he0, rfl⟩ := List.mem_map.1 (List.mem_filter.1 he).1
    rw [leftAgain hI e0 c hc]; simp
  · obtain ⟨d, rfl, _, hk⟩ := known_row hr
    rw [List.mem_singleton] at hc; subst hc
    unfold kn; rw [Int.toNat_natCast]; exact hk
theorem plan_facts (hl : ∀ e ∈ l, EqOk n w e) (hI : PInv n w l known vals) :
    (∀ c ∈ (planOf (restB' known vals l) known n).dead, 0 ≤ c ∧ c < (n : Int)) ∧ (planOf (restB' known vals l) known n).dead.Nodup ∧ (∀ c ∈ (planOf (restB' known vals l) known n).dead, kn known c = false) ∧
    (∀ i ∈ leftOf (restB' known vals l) known n, 0 ≤ i ∧ i < ((restB' known vals l).length : Int)) ∧ (planOf (restB' known vals l) known n).dead.length ≤ n := by
  have hR := rest_ok hI hl
  obtain ⟨a1, a2, a3, a4, a5, g⟩ := planL_ok (rows_in hR)
  refine ⟨a3, a4, fun c hc => ?_, fun i hi => ?_, by unfold planOf; omega⟩
  · have hcr := a3 c hc
    cases hk : kn known c with
    | false => rfl
    | true =>
      exfalso
      have hm : [c] ∈ rowsOf (restB' known vals l) known n := List.mem_append.2 (.inr (List.mem_map.2 ⟨c.toNat, List.mem_filter.2 ⟨List.mem_range.2 (by omega), hk⟩, by rw [show ((c.toNat : Nat) : Int) = c by omega]⟩))
      exact plan_known hm n (List.replicate n true) (List.replicate _ false) (fun i hi => by rw [repl_getD] at hi; cases hi) (fun d hd hm => by have := a3 d hm; omega) hcr.1 hc
  · unfold leftOf at hi
    rw [List.mem_filter] at hi
    have := a5 i hi.1
    have h2 : i < ((restB' known vals l).length : Int) := by simpa using hi.2
    exact ⟨this.1, h2⟩
theorem told_all (hl : ∀ e ∈ l, EqOk n w e) (hI : PInv n w l known vals) {c : Int} (h0 : 0 ≤ c) (h1 : c < (n : Int)) (hk : kn known c = false) : c ∈ (planOf (restB' known vals l) known n).dead ∨ ∃ i, (i, c) ∈ stepsOf (restB' known vals l) known n := by
  have hR := rest_ok hI hl
  obtain ⟨_, _, _, _, _, g⟩ := planL_ok (rows_in hR)
  have h2 := plan_told (rows_in hR) n (List.replicate n true) (List.replicate (rowsOf (restB' known vals l) known n).length false) (by simp) (by simp) c.toNat (by rw [List.getD_eq_getElem?_getD, List.getElem?_eq_getElem (by simp; omega)]; simp)
  rw [show ((c.toNat : Nat) : Int) = c by omega] at h2
  rcases h2 with h2 | ⟨i, h2⟩
  · exact .inl h2
  · refine .inr ⟨i, List.mem_filter.2 ⟨h2, ?_⟩⟩
    obtain ⟨b1, b2⟩ := steps_mem g i c h2
    by_cases hi : i < ((restB' known vals l).length : Int)
    · simpa using hi
    · exfalso
      have b3 := b1.2
      rw [rowsOf, List.length_append, List.length_map] at b3
      have hm : (rowsOf (restB' known vals l) known n).getD i.toNat [] ∈ knownRows known n := by
        rw [rowsOf, List.getD_eq_getElem?_getD, List.getElem?_append_right (by rw [List.length_map]; omega), List.getElem?_eq_getElem (by rw [List.length_map]; omega)]
        exact List.getElem_mem _
      obtain ⟨d, hd, _, hkd⟩ := known_row hm
      rw [hd, List.mem_singleton] at b2
      subst b2
      unfold kn at hk; rw [Int.toNat_natCast, hkd] at hk; cases hk
def lastW (n w : Nat) (known : List Bool) (vals : Mat) (R : List EqL) : Mat × Mat :=
  fillB (planOf R known n).dead.length known vals ((stepsOf R known n).foldl (stepW R (planOf R known n).dead.length) (deadB n (planOf R known n).dead.length w (planOf R known n).dead))
theorem fill_row {nd : Nat} {s : Mat × Mat} {c : Int} (h0 : 0 ≤ c) (h1 : c.toNat < s.1.length) (h2 : c.toNat < s.2.length) :
    rowB (fillB nd known vals s).1 c.toNat = (if kn known c then zeroB nd else rowB s.1 c.toNat) ∧ rowB (fillB nd known vals s).2 c.toNat = if kn known c then rowB vals c.toNat else rowB s.2 c.toNat := by
  unfold fillB kn
  exact ⟨row_mapIdx h1, row_mapIdx h2⟩
theorem decSt_of (hl : ∀ e ∈ l, EqOk n w e) (hA : evenB n ahead) (hI : PInv n w l known vals) (hcl : clashB known vals l = false) :
    DecSt n w l ahead known vals (planOf (restB' known vals l) known n).dead (leftOf (restB' known vals l) known n) (lastW n w known vals (restB' known vals l)).1 (lastW n w known vals (restB' known vals l)).2 := by
  have hR := rest_ok hI hl
  have hg := plan_good hl hI
  have htold := fun c h0 h1 hk => told_all (c := c) hl hI h0 h1 hk
  obtain ⟨f1, f2, f3, f4, f5⟩ := plan_facts hl hI
  have hused : ∀ j : Nat, j < (restB' known vals l).length → (∃ c, ((j : Int), c) ∈ stepsOf (restB' known vals l) known n) ∨ (j : Int) ∈ leftOf (restB' known vals l) known n := fun j hj => by
    cases hu : (planOf (restB' known vals l) known n).used.getD j false with
    | true =>
      rcases plan_used n (List.replicate n true) (List.replicate _ false) j hu with h | ⟨c, h⟩
      · rw [repl_getD] at h; cases h
      · exact .inl ⟨c, List.mem_filter.2 ⟨h, by simp; omega⟩⟩
    | false => exact .inr (List.mem_filter.2 ⟨(left_mem _ _ _).2 ⟨j, rfl, by rw [rowsOf, List.length_append, List.length_map]; omega, hu⟩, by simp; omega⟩)
  have hunk : ∀ e ∈ restB' known vals l, ∀ c ∈ e.1, kn known c = false := fun e he c hc => by
    obtain ⟨e0, he0, rfl⟩ := List.mem_map.1 (List.mem_filter.1 he).1
    exact leftAgain hI e0 c hc
  unfold lastW
  obtain ⟨R, hRe⟩ : ∃ R, R = restB' known vals l := ⟨_, rfl⟩
  rw [← hRe] at hR hg f1 f2 f3 f4 f5 hused htold hunk ⊢
  obtain ⟨D, hD⟩ : ∃ D, D = (planOf R known n).dead := ⟨_, rfl⟩
  obtain ⟨ST, hST⟩ : ∃ ST, ST = stepsOf R known n := ⟨_, rfl⟩
  rw [← hD, ← hST] at hg htold
  rw [← hST] at hused
  rw [← hD] at f1 f2 f3 f5
  rw [← hD, ← hST]
  obtain ⟨dk, du⟩ := dead_ok (nd := D.length) (w := w) f1 f2 D.length (Nat.le_refl _)
  rw [List.take_length] at dk du
  obtain ⟨wok, keep, sat, uniq⟩ := steps_ok hR hg dk
  generalize hS0 : ST.foldl (stepW R D.length) (deadB n D.length w D) = S0 at *
  have hwl := wok.wl; have hml := wok.ml
  have fr : ∀ c : Int, 0 ≤ c → c < (n : Int) → rowB (fillB D.length known vals S0).1 c.toNat = (if kn known c then zeroB D.length else rowB S0.1 c.toNat) ∧ rowB (fillB D.length known vals S0).2 c.toNat = if kn known c then rowB vals c.toNat else rowB S0.2 c.toNat := fun c h0 h1 => fill_row h0 (by omega) (by omega)
  have evU : ∀ t k y (c : Int), 0 ≤ c → c < (n : Int) → kn known c = false → ev t k D.length (fillB D.length known vals S0).1 (fillB D.length known vals S0).2 y c = ev t k D.length S0.1 S0.2 y c := fun t k y c h0 h1 hk => by
    have := fr c h0 h1
    rw [hk] at this
    exact ev_congr this.1 this.2
  have evK : ∀ t k y (c : Int), 0 ≤ c → c < (n : Int) → kn known c = true → ev t k D.length (fillB D.length known vals S0).1 (fillB D.length known vals S0).2 y c = Gf.mul t (colB (rowB vals c.toNat) k) := fun t k y c h0 h1 hk => by
    have := fr c h0 h1
    rw [hk, if_pos rfl, if_pos rfl] at this
    unfold ev
    rw [this.1, this.2, dot_zero _ _ D.length fun j _ => col_zero _ _, UInt8.zero_xor]
  have evD : ∀ t k y i, (h : i < D.length) → ev t k D.length (deadB n D.length w D).1 (deadB n D.length w D).2 y D[i] = y i := fun t k y i h => by
    have := du i h h
    unfold ev
    rw [this.1, this.2, dot_unit h, col_zero, Gf.mul_zero, UInt8.xor_zero]
  have getR : ∀ i : Int, 0 ≤ i → i < (R.length : Int) → R.getD i.toNat ([], []) ∈ R := fun i h0 h1 => by
    rw [List.getD_eq_getElem?_getD, List.getElem?_eq_getElem (by omega)]; exact List.getElem_mem _
  refine ⟨hl, hA, hI, hcl, f1, f2, f3, ⟨by simp [fillB, hwl], by simp [fillB, hml], fun c hc => ?_⟩, evK, fun t k y i h => ?_, fun t k y hk hs e he => ?_, by rw [← hRe]; exact f4, fun t k x hk hx hs c h0 h1 => ?_⟩
  · have h := fr (c : Int) (by omega) (by omega)
    rw [Int.toNat_natCast] at h
    rw [h.1, h.2]
    cases hk : kn known (c : Int) with
    | true =>
      rw [if_pos rfl, if_pos rfl]
      refine ⟨by simp [zeroB], ?_⟩
      have := hI.rowLen (c := (c : Int)) (by omega) (by omega) hk
      rwa [Int.toNat_natCast] at this
    | false =>
      rw [if_neg (by simp), if_neg (by simp)]
      have := wok.rw_ (c : Int) (htold _ (by omega) (by omega) hk) (by omega) (by omega)
      rwa [Int.toNat_natCast] at this
  · have hr := f1 _ (List.getElem_mem h)
    rw [evU t k y _ hr.1 hr.2 (f3 _ (List.getElem_mem h)), ← evD t k y i h]
    exact ev_congr (keep _ (List.getElem_mem h) hr.1).1 (keep _ (List.getElem_mem h) hr.1).2
  · rw [← hRe] at he hs
    obtain ⟨j, hj, rfl⟩ := List.getElem_of_mem he
    have ej : R.getD ((j : Int)).toNat ([], []) = R[j] := by rw [Int.toNat_natCast, List.getD_eq_getElem?_getD, List.getElem?_eq_getElem hj]; rfl
    rcases hused j hj with ⟨c, hc⟩ | hlf
    · have := sat _ hc t k y hk
      dsimp only at this
      rw [ej] at this
      unfold Sat at this ⊢
      rw [← this]
      exact xsum_congr fun d hd => evU t k y d ((hR _ he).cols d hd).1 ((hR _ he).cols d hd).2 (hunk _ he d hd)
    · have := hs _ hlf
      rwa [ej] at this
  · rw [← hRe] at hs
    cases hkc : kn known c with
    | true => rw [hx c h0 h1 hkc, evK _ _ _ c h0 h1 hkc]
    | false =>
      rw [evU _ _ _ c h0 h1 hkc]
      refine uniq t k x _ hk (fun d hd h2 h3 => ?_) (fun p hp => ?_) c (htold c h0 h1 hkc) h0 h1
      · obtain ⟨i, hi, rfl⟩ := List.getElem_of_mem hd
        rw [evD t k _ i hi, List.getD_eq_getElem?_getD, List.getElem?_eq_getElem hi]; rfl
      · have hpm : p ∈ stepsOf R known n := hST ▸ hp
        unfold stepsOf at hpm
        rw [List.mem_filter] at hpm
        have h2 : p.1 < (R.length : Int) := by simpa using hpm.2
        have h3 : 0 ≤ p.1 := by
          obtain ⟨_, _, _, _, _, g⟩ := planL_ok (rows := rowsOf R known n) (n := n) (by rw [hRe]; exact rows_in (hRe ▸ hR))
          exact (steps_mem g p.1 p.2 hpm.1).1.1
        exact hs _ (getR _ h3 h2)
end
end Wl
namespace Wl
def eqsOf (n : Nat) (seed : Int) (l : List (Int × Row)) : List EqL := l.map fun x => (colsI n seed x.1, x.2)
def midR (p : Int × Int × Int) (l : List (Int × Row)) : Mat := List.replicate p.2.1.toNat (zeroB p.2.2.toNat) ++ l.map Prod.snd
structure SymOk (p : Int × Int × Int) (x : Int × Row) : Prop where
  id : mayID x.1 = true
  len : x.2.length = p.2.2.toNat
theorem cols_lt {n : Nat} (h1 : 1 ≤ n) (h2 : n ≤ 20) (seed id : Int) : (colsI n seed id).Pairwise (· < ·) := by
  have a := cols_sorted n seed id
  have b := cols_nodup h1 h2 seed id
  rw [List.Nodup] at b
  exact (a.and b).imp fun ⟨h1, h2⟩ => by omega
section
variable {p : Int × Int × Int} {seed : Int} {l : List (Int × Row)} {n w : Nat}
theorem eqs_ok (h1 : 1 ≤ n) (h2 : n ≤ 20) (hl : ∀ x ∈ l, SymOk p x) (hw : p.2.2.toNat = w) : ∀ e ∈ eqsOf n seed l, EqOk n w e ∧ e.1.Pairwise (· < ·) := fun e he => by
  obtain ⟨x, hx, rfl⟩ := List.mem_map.1 he
  exact ⟨⟨fun c hc => colsI_mem h1 h2 hc, cols_nodup h1 h2 seed x.1, by rw [← hw]; exact (hl x hx).len⟩, cols_lt h1 h2 seed x.1⟩
theorem eqs_A (hm : mayP p = true) (hn : (colsP p).toNat = n) (hl : ∀ x ∈ l, SymOk p x) : allA n (eqsOf n seed l) (aheadRows p.1.toNat p.2.1.toNat) = matI p seed (l.map Prod.fst) := by
  unfold allA matI eqsOf
  rw [if_pos hm, hn]
  have : (l.map Prod.fst).filter mayID = l.map Prod.fst := List.filter_eq_self.2 fun i hi => by
    obtain ⟨x, hx, rfl⟩ := List.mem_map.1 hi; exact (hl x hx).id
  rw [this, List.map_map, List.map_map]; rfl
theorem eqs_B (hw : p.2.2.toNat = w) : allB w (eqsOf n seed l) (aheadRows p.1.toNat p.2.1.toNat) = midR p l := by
  unfold allB midR eqsOf
  rw [hw, List.map_map]
  simp [aheadRows]
end
section
variable {n w : Nat} {l : List EqL} {ahead : Mat} {known : List Bool} {vals : Mat} {dead left : List Int} {W M : Mat}
theorem clash_not (hl : ∀ e ∈ l, EqOk n w e) (hA : evenB n ahead) (hI : PInv n w l known vals) (hcl : clashB known vals l = true) (hr : rankB (allA n l ahead) = n) : ¬ calmB n (allA n l ahead) (allB w l ahead) := fun hc => by
  obtain ⟨k, hk, hno⟩ := peel_clash hI hl hcl
  have hs := sol_solves all_len (allA_even hA) (allB_even hl) hr hc
  exact hno _ (((solves_all hl).1 hs).2.2 k hk).1
theorem DecSt.calm_to (S : DecSt n w l ahead known vals dead left W M) (hr : rankB (allA n l ahead) = n) {D : Mat} (hs : solves dead.length w (denseA n dead.length (restB' known vals l) W left ahead) (denseB n w (restB' known vals l) M left ahead) D) :
    calmB n (allA n l ahead) (allB w l ahead) ∧ putB dead.length known vals W M D = solB n (allA n l ahead) (allB w l ahead) := by
  have h := sol_unique all_len (allA_even S.ahd) (allB_even S.eqs) hr (S.put_solves hs)
  exact ⟨h.2, h.1⟩
theorem DecSt.calm_of (S : DecSt n w l ahead known vals dead left W M) (hr : rankB (allA n l ahead) = n) (hc : calmB n (allA n l ahead) (allB w l ahead)) : solves dead.length w (denseA n dead.length (restB' known vals l) W left ahead) (denseB n w (restB' known vals l) M left ahead) (dead.map fun c => rowB (solB n (allA n l ahead) (allB w l ahead)) c.toNat) :=
  S.dead_solves (sol_solves all_len (allA_even S.ahd) (allB_even S.eqs) hr hc)
theorem DecSt.dense_calm (S : DecSt n w l ahead known vals dead left W M) (hw : 1 ≤ w) (hr : rankB (allA n l ahead) = n) : calmB dead.length (denseA n dead.length (restB' known vals l) W left ahead) (denseB n w (restB' known vals l) M left ahead) ↔ calmB n (allA n l ahead) (allB w l ahead) := by
  obtain ⟨e1, e2⟩ := dense_even S
  have hrk := S.rank hw hr
  exact ⟨fun hc => (S.calm_to hr (sol_solves dense_len e1 e2 hrk hc)).1, fun hc => (sol_unique dense_len e1 e2 hrk (S.calm_of hr hc)).2⟩
theorem dense_none {a b : Mat} (h : a.length = b.length) : solves 0 w a b [] ↔ ∀ r ∈ b, r = zeroB w := by
  unfold solves
  constructor
  · rintro ⟨_, _, h3⟩ r hr
    obtain ⟨i, hi, rfl⟩ := row_of_mem hr
    exact (h3 i (by omega)).symm
  · intro hz
    refine ⟨rfl, fun r hr => (by cases hr), fun i hi => ?_⟩
    have : rowB b i ∈ b := mem_row (by omega)
    rw [hz _ this]; rfl
theorem rest_lt (hl : ∀ e ∈ l, e.1.Pairwise (· < ·)) : ∀ e ∈ restB' known vals l, e.1.Pairwise (· < ·) := fun e he => by
  obtain ⟨e0, he0, rfl⟩ := List.mem_map.1 (List.mem_filter.1 he).1
  exact (hl e0 he0).filter _
theorem restB_len : (restB' known vals l).length ≤ l.length := by
  unfold restB'
  refine Nat.le_trans (List.length_filter_le _ _) ?_
  simp
theorem rest_cols {m : Nat} (hl : ∀ e ∈ l, e.1.length ≤ m) : ∀ e ∈ restB' known vals l, e.1.length ≤ m := fun e he => by
  obtain ⟨e0, he0, rfl⟩ := List.mem_map.1 (List.mem_filter.1 he).1
  exact Nat.le_trans (List.length_filter_le _ _) (hl e0 he0)
end
end Wl
