/- Part of the proofs that wellspringlaw13's laws answer true whatever the input reads, and leave it as it was; no condition. -/

namespace Wl
/-! Plans, as functions on lists. -/
def opn (op : List Bool) (c : Int) : Bool := op.getD c.toNat false
def openCols (op : List Bool) (r : List Int) : List Int := r.filter (opn op)
def tells (rows : List (List Int)) (op us : List Bool) (i : Nat) : Bool := !(us.getD i false) && (openCols op (rows.getD i [])).length == 1
def stepL (rows : List (List Int)) (op us : List Bool) : Option Nat := (List.range rows.length).find? (tells rows op us)
def colOf (rows : List (List Int)) (op : List Bool) (i : Nat) : Int := (openCols op (rows.getD i [])).getLast?.getD 0
def addRow (cs : List Int) (r : List Int) : List Int := r.foldl (fun cs c => cs.set c.toNat (cs.getD c.toNat 0 + 1)) cs
def cntRows (g : Nat → List Int → List Int) (rows : List (List Int)) (us : List Bool) (cs : List Int) : Nat → List Int
  | 0 => cs
  | k + 1 => if us.getD k false then cntRows g rows us cs k else addRow (cntRows g rows us cs k) (g k (rows.getD k []))
/-- The first that is open and has the greatest count, among the first k. -/
def bestL (op : List Bool) (cs : List Int) : Nat → Int
  | 0 => -1
  | k + 1 => if op.getD k false && (decide (bestL op cs k < 0) || decide (cs.getD k 0 > cs.getD (bestL op cs k).toNat 0)) then (k : Int) else bestL op cs k
def mostL (rows : List (List Int)) (op us : List Bool) : Int := bestL op (cntRows (fun _ r => r) rows us (List.replicate op.length 0) rows.length) op.length
structure Pl where
  steps : List (Int × Int)
  dead : List Int
  used : List Bool
def planRun (rows : List (List Int)) : Nat → List Bool → List Bool → Pl
  | 0, _, us => ⟨[], [], us⟩
  | k + 1, op, us =>
    if op.contains true then
      match stepL rows op us with
      | some i => let r := planRun rows k (op.set (colOf rows op i).toNat false) (us.set i true); ⟨((i : Int), colOf rows op i) :: r.steps, r.dead, r.used⟩
      | none => let r := planRun rows k (op.set (mostL rows op us).toNat false) us; ⟨r.steps, mostL rows op us :: r.dead, r.used⟩
    else ⟨[], [], us⟩
def leftL (us : List Bool) : Nat → List Int
  | 0 => []
  | k + 1 => if us.getD k false then leftL us k else leftL us k ++ [(k : Int)]
def planL (n : Nat) (rows : List (List Int)) : Pl := planRun rows n (List.replicate n true) (List.replicate rows.length false)

theorem find_none {P : Nat → Bool} {n : Nat} (h : ∀ j, j < n → P j = false) : (List.range n).find? P = none := by
  rw [List.find?_eq_none]
  intro x hx
  rw [List.mem_range] at hx
  simp [h x hx]
theorem find_some {P : Nat → Bool} {n k : Nat} (hk : k < n) (h : ∀ j, j < k → P j = false) (hp : P k = true) : (List.range n).find? P = some k := by
  rw [List.find?_eq_some_iff_append]
  refine ⟨hp, List.range k, List.range' (k + 1) (n - k - 1), ?_, fun a ha => ?_⟩
  · rw [List.range_eq_range', List.range_eq_range']
    have e1 : n = k + (n - k) := by omega
    have e2 : n - k = (n - k - 1) + 1 := by omega
    conv => lhs; rw [e1, ← List.range'_append_1 (s := 0) (m := k) (n := n - k)]
    rw [Nat.zero_add]
    conv => lhs; rw [e2, List.range'_succ]
  · rw [List.mem_range] at ha
    simp [h a ha]

theorem addRow_snoc (cs r : List Int) (c : Int) : addRow cs (r ++ [c]) = (addRow cs r).set c.toNat ((addRow cs r).getD c.toNat 0 + 1) := by
  simp [addRow]
theorem addRow_length (cs r : List Int) : (addRow cs r).length = cs.length := by
  induction r generalizing cs with
  | nil => rfl
  | cons a t ih => simp only [addRow, List.foldl_cons] at *; rw [ih]; simp
theorem cnt_length (g : Nat → List Int → List Int) (rows : List (List Int)) (us : List Bool) (cs : List Int) : ∀ k, (cntRows g rows us cs k).length = cs.length
  | 0 => rfl
  | k + 1 => by
    unfold cntRows
    split
    · exact cnt_length g rows us cs k
    · rw [addRow_length, cnt_length g rows us cs k]
/-- Counts stay small. -/
theorem addRow_le {m : Int} : ∀ {r cs : List Int}, (∀ x ∈ cs, 0 ≤ x ∧ x ≤ m) → ∀ x ∈ addRow cs r, 0 ≤ x ∧ x ≤ m + r.length
  | [], cs, h, x, hx => by have := h x hx; simp; omega
  | a :: t, cs, h, x, hx => by
    have h2 : ∀ y ∈ cs.set a.toNat (cs.getD a.toNat 0 + 1), 0 ≤ y ∧ y ≤ m + 1 := by
      intro y hy
      rcases List.mem_or_eq_of_mem_set hy with hy | hy
      · have := h y hy; omega
      · subst hy
        rw [List.getD_eq_getElem?_getD]
        cases hc : cs[a.toNat]? with
        | none =>
          rw [List.getElem?_eq_none_iff] at hc
          rw [List.set_eq_of_length_le hc] at hy
          have := h _ hy
          rw [List.getD_eq_getElem?_getD, List.getElem?_eq_none hc] at this
          simp at this ⊢; omega
        | some z => have := h z (List.mem_of_getElem? hc); simp; omega
    have := addRow_le (r := t) h2 x hx
    simp only [List.length_cons]; omega
theorem cnt_le (g : Nat → List Int → List Int) {rows : List (List Int)} {us : List Bool} {n : Nat} (hr : ∀ k, (g k (rows.getD k [])).length ≤ 64) : ∀ k, ∀ x ∈ cntRows g rows us (List.replicate n 0) k, 0 ≤ x ∧ x ≤ 64 * k
  | 0, x, hx => by
    have := List.eq_of_mem_replicate hx
    subst this; simp
  | k + 1, x, hx => by
    unfold cntRows at hx
    split at hx
    · have := cnt_le g hr k x hx; omega
    · have := addRow_le (cnt_le g hr k) x hx
      have := hr k
      omega
end Wl

namespace Wl
theorem best_open (op : List Bool) (cs : List Int) : ∀ k, (bestL op cs k = -1 ∧ ∀ j, j < k → op.getD j false = false) ∨ (0 ≤ bestL op cs k ∧ bestL op cs k < k ∧ op.getD (bestL op cs k).toNat false = true)
  | 0 => .inl ⟨rfl, fun j hj => by omega⟩
  | k + 1 => by
    unfold bestL
    split
    · rename_i hc
      simp only [Bool.and_eq_true] at hc
      exact .inr ⟨by omega, by omega, by rw [Int.toNat_natCast]; exact hc.1⟩
    · rename_i hc
      rcases best_open op cs k with ⟨e, h⟩ | ⟨h1, h2, h3⟩
      · refine .inl ⟨e, fun j hj => ?_⟩
        rcases Nat.lt_succ_iff_lt_or_eq.1 hj with hj | rfl
        · exact h j hj
        · by_cases ho : op.getD j false = true
          · exact absurd (by rw [ho, e]; rfl) hc
          · simpa using ho
      · exact .inr ⟨h1, by omega, h3⟩
theorem best_congr {op : List Bool} {cs cs' : List Int} : ∀ {k : Nat}, (∀ j, j < k → op.getD j false = true → cs.getD j 0 = cs'.getD j 0) → bestL op cs k = bestL op cs' k
  | 0, _ => rfl
  | k + 1, h => by
    have ih := best_congr (k := k) fun j hj => h j (by omega)
    unfold bestL
    rw [ih]
    by_cases ho : op.getD k false = true
    · rw [h k (by omega) ho]
      rcases best_open op cs' k with ⟨e, _⟩ | ⟨h1, h2, h3⟩
      · rw [e]; rfl
      · rw [h _ (by omega) h3]
    · simp only [Bool.not_eq_true] at ho
      rw [ho]; rfl
theorem contains_get {op : List Bool} (h : op.contains true = true) : ∃ j, j < op.length ∧ op.getD j false = true := by
  simp only [List.contains_iff_mem] at h
  obtain ⟨j, hj, e⟩ := List.getElem_of_mem h
  exact ⟨j, hj, by rw [List.getD_eq_getElem?_getD, List.getElem?_eq_getElem hj]; exact e⟩
theorem most_open {rows : List (List Int)} {op us : List Bool} (h : op.contains true = true) : 0 ≤ mostL rows op us ∧ mostL rows op us < op.length ∧ op.getD (mostL rows op us).toNat false = true := by
  obtain ⟨j, hj, e⟩ := contains_get h
  rcases best_open op (cntRows (fun _ r => r) rows us (List.replicate op.length 0) rows.length) op.length with ⟨_, h2⟩ | h2
  · rw [h2 j hj] at e; cases e
  · exact h2
theorem step_tells {rows : List (List Int)} {op us : List Bool} {i : Nat} (h : stepL rows op us = some i) : i < rows.length ∧ tells rows op us i = true := by
  have h1 := List.mem_of_find?_eq_some h
  have h2 := List.find?_some h
  exact ⟨List.mem_range.1 h1, h2⟩
/-- The column that a telling row tells. -/
theorem col_open {rows : List (List Int)} {op us : List Bool} {i : Nat} (ht : tells rows op us i = true) : openCols op (rows.getD i []) = [colOf rows op i] ∧ colOf rows op i ∈ rows.getD i [] ∧ opn op (colOf rows op i) = true := by
  simp only [tells, Bool.and_eq_true, beq_iff_eq] at ht
  obtain ⟨c, hc⟩ := List.length_eq_one_iff.1 ht.2
  have e : colOf rows op i = c := by unfold colOf; rw [hc]; rfl
  have hm : c ∈ openCols op (rows.getD i []) := by rw [hc]; simp
  rw [openCols, List.mem_filter] at hm
  rw [e]
  exact ⟨hc, hm.1, hm.2⟩
theorem count_close {op : List Bool} {j : Nat} (h : op.getD j false = true) : (op.set j false).count true + 1 = op.count true := by
  have hj : j < op.length := by
    by_cases hj : j < op.length
    · exact hj
    · rw [List.getD_eq_getElem?_getD, List.getElem?_eq_none (by omega)] at h; cases h
  have e : op[j] = true := by rw [List.getD_eq_getElem?_getD, List.getElem?_eq_getElem hj] at h; exact h
  have hp : 0 < op.count true := List.count_pos_iff.2 (e ▸ List.getElem_mem hj)
  rw [List.count_set hj, e]; simp; omega
theorem not_contains {op : List Bool} (h : op.count true = 0) : op.contains true = false := by
  rw [List.count_eq_zero] at h
  simpa using h
theorem plan_stop {rows : List (List Int)} {op us : List Bool} (h : op.contains true = false) : ∀ k, planRun rows k op us = ⟨[], [], us⟩
  | 0 => rfl
  | k + 1 => by unfold planRun; rw [h]; rfl
theorem plan_step {rows : List (List Int)} {op us : List Bool} {i k : Nat} (h : op.contains true = true) (hs : stepL rows op us = some i) :
    planRun rows (k + 1) op us = ⟨((i : Int), colOf rows op i) :: (planRun rows k (op.set (colOf rows op i).toNat false) (us.set i true)).steps, (planRun rows k (op.set (colOf rows op i).toNat false) (us.set i true)).dead, (planRun rows k (op.set (colOf rows op i).toNat false) (us.set i true)).used⟩ := by
  rw [planRun, h, hs]; rfl
theorem plan_dead {rows : List (List Int)} {op us : List Bool} {k : Nat} (h : op.contains true = true) (hs : stepL rows op us = none) :
    planRun rows (k + 1) op us = ⟨(planRun rows k (op.set (mostL rows op us).toNat false) us).steps, mostL rows op us :: (planRun rows k (op.set (mostL rows op us).toNat false) us).dead, (planRun rows k (op.set (mostL rows op us).toNat false) us).used⟩ := by
  rw [planRun, h, hs]; rfl
theorem plan_used_len (rows : List (List Int)) : ∀ k op us, (planRun rows k op us).used.length = us.length
  | 0, _, _ => rfl
  | k + 1, op, us => by
    unfold planRun
    split
    · split
      · show (planRun rows k _ _).used.length = _
        rw [plan_used_len]; simp
      · show (planRun rows k _ _).used.length = _
        rw [plan_used_len]
    · rfl
end Wl
namespace Wl
theorem left_le (us : List Bool) : ∀ k, (leftL us k).length ≤ k
  | 0 => by simp [leftL]
  | k + 1 => by
    have := left_le us k
    unfold leftL
    split <;> simp <;> omega
end Wl

namespace Wl
theorem getD_set' (l : List Int) (i j : Nat) (x : Int) : (l.set i x).getD j 0 = if i = j ∧ j < l.length then x else l.getD j 0 := by
  simp only [List.getD_eq_getElem?_getD, List.getElem?_set]
  by_cases h : i = j
  · subst h
    by_cases h2 : i < l.length <;> simp [h2]
  · simp [h]
theorem addRow_open {op : List Bool} : ∀ (r cs cs' : List Int), cs.length = cs'.length → (∀ j, op.getD j false = true → cs.getD j 0 = cs'.getD j 0) → ∀ j, op.getD j false = true → (addRow cs (openCols op r)).getD j 0 = (addRow cs' r).getD j 0
  | [], cs, cs', _, h, j, hj => h j hj
  | c :: t, cs, cs', hl, h, j, hj => by
    by_cases ho : opn op c = true
    · have e : openCols op (c :: t) = c :: openCols op t := by simp [openCols, ho]
      rw [e]
      show (addRow (cs.set c.toNat (cs.getD c.toNat 0 + 1)) (openCols op t)).getD j 0 = (addRow (cs'.set c.toNat (cs'.getD c.toNat 0 + 1)) t).getD j 0
      refine addRow_open t _ _ (by simp [hl]) (fun i hi => ?_) j hj
      rw [getD_set', getD_set', h _ ho, hl, h i hi]
    · have e : openCols op (c :: t) = openCols op t := by simp [openCols, ho]
      rw [e]
      show (addRow cs (openCols op t)).getD j 0 = (addRow (cs'.set c.toNat (cs'.getD c.toNat 0 + 1)) t).getD j 0
      refine addRow_open t _ _ (by simp [hl]) (fun i hi => ?_) j hj
      rw [getD_set', if_neg ?_, h i hi]
      rintro ⟨rfl, _⟩
      exact ho hi
theorem cnt_open {op us : List Bool} {rows : List (List Int)} (cs : List Int) : ∀ k j, op.getD j false = true → (cntRows (fun _ r => openCols op r) rows us cs k).getD j 0 = (cntRows (fun _ r => r) rows us cs k).getD j 0
  | 0, _, _ => rfl
  | k + 1, j, hj => by
    have ih := cnt_open (op := op) (us := us) (rows := rows) cs k
    unfold cntRows
    split
    · exact ih j hj
    · exact addRow_open _ _ _ (by rw [cnt_length, cnt_length]) ih j hj
/-- The first of the first k rows that tells. -/
def fnd (rows : List (List Int)) (op us : List Bool) (k : Nat) : Option Nat := (List.range k).find? (tells rows op us)
theorem fnd_succ (rows : List (List Int)) (op us : List Bool) (k : Nat) : fnd rows op us (k + 1) = (fnd rows op us k).or (if tells rows op us k then some k else none) := by
  unfold fnd
  rw [List.range_succ, List.find?_append]
  congr 1
  by_cases h : tells rows op us k = true <;> simp [h]
def fndRow (rows : List (List Int)) (op us : List Bool) (k : Nat) : Int := match fnd rows op us k with | some i => i | none => -1
def fndCol (rows : List (List Int)) (op us : List Bool) (k : Nat) : Int := match fnd rows op us k with | some i => colOf rows op i | none => -1
theorem contains_of_count {op : List Bool} {f : Nat} (h : op.count true = f + 1) : op.contains true = true := by
  have : 0 < op.count true := by omega
  rw [List.count_pos_iff] at this
  simpa using this
end Wl
namespace Wl
theorem fnd_skip {rows : List (List Int)} {op us : List Bool} {k : Nat} (h : tells rows op us k = false) : fnd rows op us (k + 1) = fnd rows op us k := by
  rw [fnd_succ, h]; cases fnd rows op us k <;> rfl
theorem fnd_neg {rows : List (List Int)} {op us : List Bool} {k : Nat} (h : fndRow rows op us k < 0) : fnd rows op us k = none := by
  unfold fndRow at h
  cases hf : fnd rows op us k with
  | none => rfl
  | some i => rw [hf] at h; simp at h; omega
theorem fnd_pos {rows : List (List Int)} {op us : List Bool} {k : Nat} (h : ¬ fndRow rows op us k < 0) : ∃ i : Nat, fnd rows op us k = some i ∧ fndRow rows op us k = i ∧ fndCol rows op us k = colOf rows op i := by
  unfold fndCol
  unfold fndRow at *
  cases hf : fnd rows op us k with
  | none => rw [hf] at h; simp at h
  | some i => exact ⟨i, rfl, rfl, rfl⟩
theorem fnd_keep {rows : List (List Int)} {op us : List Bool} {k : Nat} (h : ¬ fndRow rows op us k < 0) : fnd rows op us (k + 1) = fnd rows op us k := by
  obtain ⟨i, hi, _⟩ := fnd_pos h
  rw [fnd_succ, hi]; rfl
theorem fnd_new {rows : List (List Int)} {op us : List Bool} {k : Nat} (h : fndRow rows op us k < 0) (ht : tells rows op us k = true) : fnd rows op us (k + 1) = some k := by
  rw [fnd_succ, fnd_neg h, ht]; rfl
end Wl
namespace Wl
theorem plan_len (rows : List (List Int)) : ∀ k op us, (planRun rows k op us).steps.length + (planRun rows k op us).dead.length ≤ k
  | 0, _, _ => by simp [planRun]
  | k + 1, op, us => by
    unfold planRun
    split
    · split
      · have := plan_len rows k
        rename_i i _
        have := this (op.set (colOf rows op i).toNat false) (us.set i true)
        simp only [List.length_cons]; omega
      · have := plan_len rows k (op.set (mostL rows op us).toNat false) us
        simp only [List.length_cons]; omega
    · simp
end Wl

namespace Wl
/-! A chain: some telling row is always there while a column is open. -/
theorem find_exists {P : Nat → Bool} {n j : Nat} (hj : j < n) (h : P j = true) : ∃ i, (List.range n).find? P = some i := by
  cases hf : (List.range n).find? P with
  | some i => exact ⟨i, rfl⟩
  | none =>
    rw [List.find?_eq_none] at hf
    exact absurd h (hf j (List.mem_range.2 hj))
theorem getD_setb (l : List Bool) (i j : Nat) (x : Bool) : (l.set i x).getD j false = if i = j ∧ j < l.length then x else l.getD j false := by
  simp only [List.getD_eq_getElem?_getD, List.getElem?_set]
  by_cases h : i = j
  · subst h
    by_cases h2 : i < l.length <;> simp [h2]
  · simp [h]
def usedDone (rows : List (List Int)) (op us : List Bool) : Prop := ∀ i, us.getD i false = true → openCols op (rows.getD i []) = []
theorem open_close {op : List Bool} {c d : Int} (h : opn (op.set d.toNat false) c = true) : opn op c = true ∧ c.toNat ≠ d.toNat := by
  unfold opn at *
  rw [getD_setb] at h
  by_cases e : d.toNat = c.toNat
  · rw [if_pos] at h
    · cases h
    · refine ⟨e, ?_⟩
      by_cases hl : c.toNat < op.length
      · exact hl
      · rw [if_neg (fun hh => hl hh.2), List.getD_eq_getElem?_getD, List.getElem?_eq_none (by omega)] at h; cases h
  · rw [if_neg (fun hh => e hh.1)] at h
    exact ⟨h, fun hh => e hh.symm⟩
theorem used_step {rows : List (List Int)} {op us : List Bool} {i : Nat} (hu : usedDone rows op us) (ht : tells rows op us i = true) : usedDone rows (op.set (colOf rows op i).toNat false) (us.set i true) := by
  obtain ⟨h1, h2, h3⟩ := col_open ht
  intro j hj
  rw [getD_setb] at hj
  rw [openCols, List.filter_eq_nil_iff]
  intro c hc ho
  obtain ⟨ho, hne⟩ := open_close ho
  have hm : c ∈ openCols op (rows.getD j []) := by rw [openCols, List.mem_filter]; exact ⟨hc, ho⟩
  by_cases e : i = j
  · subst e
    rw [h1] at hm
    simp at hm
    exact hne (by rw [hm])
  · rw [if_neg (fun hh => e hh.1)] at hj
    rw [hu j hj] at hm
    simp at hm
theorem plan_all {rows : List (List Int)} {n : Nat} (ex : ∀ op us, op.length = n → us.length = rows.length → usedDone rows op us → op.contains true = true → ∃ j, j < rows.length ∧ tells rows op us j = true) :
    ∀ k op us, op.length = n → us.length = rows.length → usedDone rows op us → op.count true = k →
      (planRun rows k op us).dead = [] ∧ (planRun rows k op us).steps.length = k ∧ (planRun rows k op us).used.count true = us.count true + k
  | 0, _, _, _, _, _, _ => ⟨rfl, rfl, rfl⟩
  | k + 1, op, us, hl, hul, hu, hc => by
    have hct := contains_of_count hc
    obtain ⟨j, hj, htj⟩ := ex op us hl hul hu hct
    obtain ⟨i, hi⟩ : ∃ i, stepL rows op us = some i := find_exists hj htj
    obtain ⟨hil, hti⟩ := step_tells hi
    have hcol := (col_open hti).2.2
    have hcc := count_close (op := op) (j := (colOf rows op i).toNat) hcol
    have hui : us[i]'(by omega) = false := by
      simp only [tells, Bool.and_eq_true, Bool.not_eq_true'] at hti
      have := hti.1
      rw [List.getD_eq_getElem?_getD, List.getElem?_eq_getElem (by omega)] at this
      exact this
    have huc : (us.set i true).count true = us.count true + 1 := by
      rw [List.count_set (by omega), hui]; simp
    obtain ⟨a, b, c⟩ := plan_all ex k (op.set (colOf rows op i).toNat false) (us.set i true) (by simp [hl]) (by simp [hul]) (used_step hu hti) (by omega)
    rw [plan_step hct hi]
    exact ⟨a, by simp [b], by rw [c, huc]; omega⟩
theorem left_nil {us : List Bool} : ∀ {k : Nat}, (∀ j, j < k → us.getD j false = true) → leftL us k = []
  | 0, _ => rfl
  | k + 1, h => by rw [leftL, h k (by omega)]; exact left_nil fun j hj => h j (by omega)
theorem all_true {us : List Bool} (h : us.count true = us.length) : ∀ j, j < us.length → us.getD j false = true := by
  intro j hj
  rw [List.getD_eq_getElem?_getD, List.getElem?_eq_getElem hj]
  have := List.count_eq_length.1 h _ (List.getElem_mem hj)
  exact this.symm
theorem repl_getD (n j : Nat) : (List.replicate n false).getD j false = false := by
  rw [List.getD_eq_getElem?_getD]
  by_cases h : j < n
  · rw [List.getElem?_eq_getElem (by simpa using h)]; simp
  · rw [List.getElem?_eq_none (by simpa using h)]; rfl
/-- Where each open column has a telling row. -/
theorem planL_all {rows : List (List Int)} {n : Nat} (hr : rows.length = n) (ex : ∀ op us, op.length = n → us.length = rows.length → usedDone rows op us → op.contains true = true → ∃ j, j < rows.length ∧ tells rows op us j = true) :
    (planL n rows).dead = [] ∧ (planL n rows).steps.length = n ∧ leftL (planL n rows).used rows.length = [] := by
  obtain ⟨a, b, c⟩ := plan_all ex n (List.replicate n true) (List.replicate rows.length false) (by simp) (by simp) (fun i hi => by rw [repl_getD] at hi; cases hi) (by simp)
  refine ⟨a, b, left_nil fun j hj => all_true ?_ j ?_⟩
  · show (planRun _ _ _ _).used.count true = (planRun _ _ _ _).used.length
    rw [c, plan_used_len]; simp [hr, List.count_replicate]
  · show j < (planRun _ _ _ _).used.length
    rw [plan_used_len]; simpa using hj
/-- Somewhere between a closed and an open column two neighbours part. -/
theorem neighbours {f : Nat → Bool} {n a b : Nat} (ha : a < n) (hb : b < n) (h : f a ≠ f b) : ∃ c, c + 1 < n ∧ f c ≠ f (c + 1) := by
  refine Classical.byContradiction fun hno => h ?_
  have h0 : ∀ c, c < n → f c = f 0 := by
    intro c
    induction c with
    | zero => intro _; rfl
    | succ c ih =>
      intro hc
      rw [← ih (by omega)]
      exact Classical.byContradiction fun hh => hno ⟨c, hc, fun e => hh e.symm⟩
  rw [h0 a ha, h0 b hb]
theorem tells_of {rows : List (List Int)} {op us : List Bool} {i : Nat} (hu : usedDone rows op us) (hl : (openCols op (rows.getD i [])).length = 1) : tells rows op us i = true := by
  have : us.getD i false = false := by
    cases h : us.getD i false with
    | false => rfl
    | true => rw [hu i h] at hl; cases hl
  simp only [tells, this, hl]; rfl
theorem mem_row {rows : List (List Int)} {r : List Int} (h : r ∈ rows) : ∃ j, j < rows.length ∧ rows.getD j [] = r := by
  obtain ⟨j, hj, e⟩ := List.getElem_of_mem h
  exact ⟨j, hj, by rw [List.getD_eq_getElem?_getD, List.getElem?_eq_getElem hj]; exact e⟩
def pairUp (n : Nat) : List (List Int) := (List.range (n - 1)).map fun c : Nat => [(c : Int), (c : Int) + 1]
theorem chain_ex {rows : List (List Int)} {n s : Nat} (hs : s < n) (h1 : [(s : Int)] ∈ rows) (h2 : ∀ c : Nat, c + 1 < n → [(c : Int), (c : Int) + 1] ∈ rows) (op us : List Bool) (hl : op.length = n) (hu : usedDone rows op us) (hc : op.contains true = true) :
    ∃ j, j < rows.length ∧ tells rows op us j = true := by
  have hopn : ∀ c : Nat, opn op (c : Int) = op.getD c false := fun c => by unfold opn; rw [Int.toNat_natCast]
  have hopn1 : ∀ c : Nat, opn op ((c : Int) + 1) = op.getD (c + 1) false := fun c => hopn (c + 1)
  cases ho : op.getD s false with
  | true =>
    obtain ⟨j, hj, e⟩ := mem_row h1
    refine ⟨j, hj, tells_of hu ?_⟩
    rw [e]
    simp only [openCols, List.filter_cons, hopn, ho, List.filter_nil, if_true]; rfl
  | false =>
    obtain ⟨x, hx, hxo⟩ := contains_get hc
    obtain ⟨c, hcn, hne⟩ := neighbours (f := fun c => op.getD c false) (n := n) (a := s) (b := x) hs (by omega) (by simp only [ho, hxo]; decide)
    obtain ⟨j, hj, e⟩ := mem_row (h2 c hcn)
    refine ⟨j, hj, tells_of hu ?_⟩
    rw [e]
    simp only [openCols, List.filter_cons, hopn, hopn1, List.filter_nil]
    cases h3 : op.getD c false <;> cases h4 : op.getD (c + 1) false <;> simp_all
/-- The rows of a chain, turned. -/
def chainRows (n s k : Nat) : List (List Int) := ([(s : Int)] :: pairUp n).drop k ++ ([(s : Int)] :: pairUp n).take k
theorem chain_plan {n s k : Nat} (hn : 0 < n) (hs : s < n) : (planL n (chainRows n s k)).dead = [] ∧ (planL n (chainRows n s k)).steps.length = n ∧ leftL (planL n (chainRows n s k)).used (chainRows n s k).length = [] := by
  have hmem : ∀ r, r ∈ [(s : Int)] :: pairUp n → r ∈ chainRows n s k := fun r hr => by
    rw [chainRows, List.mem_append]
    rw [← List.take_append_drop k ([(s : Int)] :: pairUp n), List.mem_append] at hr
    exact hr.symm
  have hlen : (chainRows n s k).length = n := by
    rw [chainRows, List.length_append, List.length_drop, List.length_take]
    have : ([(s : Int)] :: pairUp n).length = n := by simp [pairUp]; omega
    omega
  refine planL_all hlen fun op us hl hul hu hc => chain_ex hs (hmem _ (by simp)) (fun c hc => hmem _ ?_) op us hl hu hc
  simp only [List.mem_cons, pairUp, List.mem_map, List.mem_range]
  exact .inr ⟨c, by omega, rfl⟩
end Wl

namespace Wl
/-! A star: the middle is put off, then each row tells. -/
theorem best_top {op : List Bool} {cs : List Int} {m : Nat} (hm : op.getD m false = true) : ∀ n, (∀ c, c < n → c ≠ m → cs.getD c 0 < cs.getD m 0) → m < n → bestL op cs n = m
  | 0, _, h => by omega
  | k + 1, hc, h => by
    unfold bestL
    by_cases e : k = m
    · subst e
      rw [if_pos]
      rw [hm]
      rcases best_open op cs k with ⟨e, _⟩ | ⟨h1, h2, _⟩
      · rw [e]; rfl
      · have := hc (bestL op cs k).toNat (by omega) (by omega)
        rw [decide_eq_true this]; simp
    · have ih := best_top hm k (fun c h1 h2 => hc c (by omega) h2) (by omega)
      have := hc k (by omega) e
      rw [ih, if_neg]
      rw [Int.toNat_natCast, decide_eq_false (by omega), decide_eq_false (by omega)]; simp
/-- The rows of a star with the middle m: row i and its other end. -/
def other (m i : Nat) : Nat := if i < m then i else i + 1
def starRow (m i : Nat) : List Int := if i < m then [(i : Int), (m : Int)] else [(m : Int), (i : Int) + 1]
def star (n m : Nat) : List (List Int) := (List.range (n - 1)).map (starRow m)
theorem star_get {n m i : Nat} (h : i < n - 1) : (star n m).getD i [] = starRow m i := by
  rw [List.getD_eq_getElem?_getD, star, List.getElem?_map, List.getElem?_range h]; rfl
theorem star_len (n m : Nat) : (star n m).length = n - 1 := by simp [star]
theorem openNat (op : List Bool) (c : Nat) : opn op (c : Int) = op.getD c false := by unfold opn; rw [Int.toNat_natCast]
theorem openNat1 (op : List Bool) (c : Nat) : opn op ((c : Int) + 1) = op.getD (c + 1) false := openNat op (c + 1)
theorem star_open {op : List Bool} {m i : Nat} (hm : op.getD m false = false) : openCols op (starRow m i) = if op.getD (other m i) false then [(other m i : Int)] else [] := by
  unfold starRow other
  by_cases h : i < m
  · simp only [h, if_true, openCols, List.filter_cons, openNat, hm, List.filter_nil]
    cases op.getD i false <;> rfl
  · simp only [h, if_false, openCols, List.filter_cons, openNat, openNat1, hm, List.filter_nil]
    cases op.getD (i + 1) false <;> simp
theorem star_run {n m : Nat} (hm : m < n) : ∀ k op us, k ≤ n - 1 → op.length = n → us.length = n - 1 → op.getD m false = false → (∀ i, i < n - 1 → op.getD (other m i) false = decide (n - 1 - k ≤ i)) → (∀ i, i < n - 1 → us.getD i false = decide (i < n - 1 - k)) →
    (planRun (star n m) k op us).dead = [] ∧ (planRun (star n m) k op us).steps = (List.range' (n - 1 - k) k).map (fun i : Nat => ((i : Int), (other m i : Int))) ∧ (∀ i, i < n - 1 → (planRun (star n m) k op us).used.getD i false = true)
  | 0, op, us, _, _, _, _, _, hu => ⟨rfl, rfl, fun i hi => by show us.getD i false = true; rw [hu i hi]; simp; omega⟩
  | k + 1, op, us, hk, hl, hul, hmo, ho, hu => by
    have ht0 : n - 1 - (k + 1) < n - 1 := by omega
    have hopen := ho _ ht0
    rw [decide_eq_true (Nat.le_refl _)] at hopen
    have hoc : openCols op ((star n m).getD (n - 1 - (k + 1)) []) = [(other m (n - 1 - (k + 1)) : Int)] := by rw [star_get ht0, star_open hmo, hopen]; rfl
    have hcol : colOf (star n m) op (n - 1 - (k + 1)) = (other m (n - 1 - (k + 1)) : Int) := by unfold colOf; rw [hoc]; rfl
    have hct : op.contains true = true := by
      have hlt : other m (n - 1 - (k + 1)) < op.length := by
        by_cases hlt : other m (n - 1 - (k + 1)) < op.length
        · exact hlt
        · rw [List.getD_eq_getElem?_getD, List.getElem?_eq_none (by omega)] at hopen; cases hopen
      rw [List.contains_iff_mem]
      rw [List.getD_eq_getElem?_getD, List.getElem?_eq_getElem hlt] at hopen
      exact List.mem_of_getElem hopen
    have hst : stepL (star n m) op us = some (n - 1 - (k + 1)) := by
      refine find_some (by rw [star_len]; exact ht0) (fun j hj => ?_) ?_
      · simp only [tells, hu j (by omega), decide_eq_true hj]; rfl
      · simp only [tells, hu _ ht0, hoc, decide_eq_false (Nat.lt_irrefl _)]; rfl
    rw [plan_step hct hst, hcol]
    have hne : ∀ i, i < n - 1 → i ≠ n - 1 - (k + 1) → other m (n - 1 - (k + 1)) ≠ other m i := by
      intro i _ hi e
      unfold other at e
      split at e <;> split at e <;> omega
    obtain ⟨a, b, c⟩ := star_run hm k (op.set ((other m (n - 1 - (k + 1)) : Int)).toNat false) (us.set (n - 1 - (k + 1)) true) (by omega) (by simp [hl]) (by simp [hul])
      (by rw [getD_setb]; split <;> first | rfl | exact hmo)
      (fun i hi => by
        rw [getD_setb, Int.toNat_natCast]
        by_cases e : i = n - 1 - (k + 1)
        · subst e
          have hlt : other m (n - 1 - (k + 1)) < op.length := by unfold other; split <;> omega
          rw [if_pos ⟨rfl, hlt⟩, decide_eq_false (by omega)]
        · rw [if_neg (fun hh => hne i hi e hh.1), ho i hi]
          congr 1
          exact propext ⟨fun h => by omega, fun h => by omega⟩)
      (fun i hi => by
        rw [getD_setb]
        by_cases e : n - 1 - (k + 1) = i
        · rw [if_pos ⟨e, by omega⟩, decide_eq_true (by omega)]
        · rw [if_neg (fun hh => e hh.1), hu i hi]
          congr 1
          exact propext ⟨fun h => by omega, fun h => by omega⟩)
    refine ⟨a, ?_, c⟩
    dsimp only
    rw [b, List.range'_succ, List.map_cons, show n - 1 - (k + 1) + 1 = n - 1 - k by omega]
theorem star_cnt {n m : Nat} (hm : m < n) {us : List Bool} (hu : ∀ i, us.getD i false = false) : ∀ k, k ≤ n - 1 → ∀ c, c < n → (cntRows (fun _ r => r) (star n m) us (List.replicate n 0) k).getD c 0 = if c = m then (k : Int) else if (if c < m then c < k else c ≤ k) then 1 else 0
  | 0, _, c, hc => by
    have e : (List.replicate n (0 : Int)).getD c 0 = 0 := by rw [List.getD_eq_getElem?_getD, List.getElem?_eq_getElem (by simpa using hc)]; simp
    show (List.replicate n (0 : Int)).getD c 0 = _
    rw [e]
    by_cases hcm : c = m
    · rw [if_pos hcm]; rfl
    · rw [if_neg hcm]
      by_cases h : c < m
      · simp only [h, if_true, Nat.not_lt_zero, if_false]
      · simp only [h, if_false, show ¬ c ≤ 0 by omega]
  | k + 1, hk, c, hc => by
    have ih := star_cnt hm hu k (by omega)
    have hlen : (cntRows (fun _ r => r) (star n m) us (List.replicate n 0) k).length = n := by rw [cnt_length]; simp
    rw [cntRows, hu k]
    simp only [Bool.false_eq_true, if_false, star_get (show k < n - 1 by omega), starRow]
    generalize cntRows (fun _ r => r) (star n m) us (List.replicate n 0) k = cs at *
    by_cases h : k < m
    · simp only [h, if_true, addRow, List.foldl_cons, List.foldl_nil, Int.toNat_natCast, getD_set', List.length_set, hlen, ih c hc, ih m hm, ih k (by omega)]
      by_cases e1 : m = c
      · subst e1
        simp only [true_and, hc, if_true, show ¬ (k = m ∧ m < n) from fun hh => by omega, if_false]
        omega
      · simp only [e1, false_and, if_false, show ¬ c = m from fun hh => e1 hh.symm]
        by_cases e2 : k = c
        · subst e2
          simp only [true_and, hc, if_true, h, show ¬ k < k from Nat.lt_irrefl _, if_false, show ¬ k = m by omega, show k < k + 1 by omega]; rfl
        · simp only [e2, false_and, if_false]
          by_cases e3 : c < m
          · simp only [e3, if_true]
            have : c < k ↔ c < k + 1 := by omega
            simp only [this]
          · simp only [e3, if_false]
            have h1 : ¬ c ≤ k := by omega
            have h2 : ¬ c ≤ k + 1 := by omega
            simp only [h1, h2, if_false]
    · have e0 : ((k : Int) + 1).toNat = k + 1 := by omega
      simp only [h, if_false, addRow, List.foldl_cons, List.foldl_nil, Int.toNat_natCast, e0, getD_set', List.length_set, hlen, ih c hc, ih m hm, ih (k + 1) (by omega)]
      by_cases e1 : k + 1 = c
      · subst e1
        simp only [true_and, hc, if_true, show ¬ m = k + 1 by omega, false_and, show ¬ k + 1 = m by omega, if_false, show ¬ k + 1 < m by omega, show ¬ k + 1 ≤ k by omega, Nat.le_refl]; rfl
      · simp only [e1, false_and, if_false]
        by_cases e2 : m = c
        · subst e2
          simp only [true_and, hc, if_true]; omega
        · simp only [e2, false_and, if_false, show ¬ c = m from fun hh => e2 hh.symm]
          by_cases e3 : c < m
          · simp only [e3, if_true]
            have h1 : c < k := by omega
            have h2 : c < k + 1 := by omega
            simp only [h1, h2, if_true]
          · simp only [e3, if_false]
            have : c ≤ k ↔ c ≤ k + 1 := by omega
            simp only [this]
theorem star_plan {n m : Nat} (hn : 3 ≤ n) (hm : m < n) : (planL n (star n m)).dead = [(m : Int)] ∧ (planL n (star n m)).steps = (List.range (n - 1)).map (fun i : Nat => ((i : Int), (other m i : Int))) ∧ leftL (planL n (star n m)).used (star n m).length = [] := by
  obtain ⟨k, rfl⟩ : ∃ k, n = k + 1 := ⟨n - 1, by omega⟩
  have hct : (List.replicate (k + 1) true).contains true = true := by simp
  have hop : ∀ c, c < k + 1 → (List.replicate (k + 1) true).getD c false = true := fun c hc => by rw [List.getD_eq_getElem?_getD, List.getElem?_eq_getElem (by simpa using hc)]; simp
  have hrep : ∀ i, (List.replicate (star (k + 1) m).length false).getD i false = false := fun i => repl_getD _ _
  have hst : stepL (star (k + 1) m) (List.replicate (k + 1) true) (List.replicate (star (k + 1) m).length false) = none := by
    refine find_none fun j hj => ?_
    rw [star_len] at hj
    simp only [tells, hrep, star_get hj, starRow]
    by_cases h : j < m
    · simp only [h, if_true, openCols, List.filter_cons, openNat, hop j (by omega), hop m hm, List.filter_nil]; rfl
    · simp only [h, if_false, openCols, List.filter_cons, openNat, openNat1, hop (j + 1) (by omega), hop m hm, List.filter_nil, if_true]; rfl
  have hmost : mostL (star (k + 1) m) (List.replicate (k + 1) true) (List.replicate (star (k + 1) m).length false) = m := by
    unfold mostL
    rw [List.length_replicate]
    refine best_top (hop m hm) _ (fun c hc hne => ?_) hm
    rw [star_cnt hm hrep _ (by rw [star_len]; exact Nat.le_refl _) c hc, star_cnt hm hrep _ (by rw [star_len]; exact Nat.le_refl _) m hm, star_len]
    simp only [hne, if_false, if_true]
    split <;> omega
  unfold planL
  rw [plan_dead hct hst, hmost]
  obtain ⟨a, b, c⟩ := star_run hm k ((List.replicate (k + 1) true).set ((m : Int)).toNat false) (List.replicate (star (k + 1) m).length false) (by omega) (by simp) (by simp [star_len])
    (by rw [getD_setb, Int.toNat_natCast, if_pos ⟨rfl, by simpa using hm⟩])
    (fun i hi => by
      have h2 : other m i < k + 1 := by unfold other; split <;> omega
      have h3 : m ≠ other m i := by unfold other; split <;> omega
      rw [getD_setb, Int.toNat_natCast, if_neg (fun hh => h3 hh.1), hop _ h2, decide_eq_true (by omega)])
    (fun i hi => by rw [hrep, decide_eq_false (by omega)])
  refine ⟨by dsimp only; rw [a], ?_, ?_⟩
  · dsimp only
    rw [b, show k + 1 - 1 - k = 0 by omega, show k + 1 - 1 = k by omega, List.range_eq_range']
  · dsimp only
    exact left_nil fun j hj => c j (by rw [star_len] at hj; exact hj)
end Wl
