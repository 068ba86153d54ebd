/- Part of the proofs that wellspringlaw14's laws answer true whatever the input reads, and leave it as it was; no condition. -/
import Derived.Test.YtkcplnfomahleaaGreatDoorKC
set_option linter.unusedVariables false
set_option linter.unusedSimpArgs false
namespace Wl
section
variable {p : Int × Int × Int} {seed : Int} {d : Row} {K H w n : Nat}
theorem sym_solves (hm : mayP p = true) (hn : (colsP p).toNat = n) (hw : p.2.2.toNat = w) (h1 : 1 ≤ n) (h2 : n ≤ 20) {l : List (Int × Row)} (hl : ∀ x ∈ l, SymOk p x) {X : Mat} :
    Wl.solves n w (matI p seed (l.map Prod.fst)) (midR p l) X ↔ X.length = n ∧ evenB w X ∧ ∀ k, k < w → (∀ x ∈ l, xsum (at_ X k) (colsI n seed x.1) = colB x.2 k) ∧ ∀ r ∈ aheadRows p.1.toNat p.2.1.toNat, dotN (fun j => colB r j) (fun c => colB (rowB X c) k) n = 0 := by
  rw [← eqs_A (seed := seed) hm hn hl, ← eqs_B (n := n) (seed := seed) (p := p) (l := l) hw, solves_all fun e he => (eqs_ok (seed := seed) h1 h2 hl hw e he).1]
  have : ∀ k, (∀ e ∈ eqsOf n seed l, Sat 1 k (at_ X k) e) ↔ ∀ x ∈ l, xsum (at_ X k) (colsI n seed x.1) = colB x.2 k := fun k => by
    unfold eqsOf
    constructor
    · intro h x hx
      have := h _ (List.mem_map_of_mem hx)
      unfold Sat at this; rwa [Gf.one_mul] at this
    · intro h e he
      obtain ⟨x, hx, rfl⟩ := List.mem_map.1 he
      unfold Sat; rw [Gf.one_mul]; exact h x hx
  simp only [this]
theorem at_sum {X : Mat} {w : Nat} (k : Nat) (x : Int) (h1 : 1 ≤ n) (h2 : n ≤ 20) (y : Nat → UInt8) : dotN (fun j => colB (rowI n seed x) j) y n = xsum (fun c => y c.toNat) (colsI n seed x) :=
  dot_ones _ (fun _ hc => colsI_mem h1 h2 hc) (cols_nodup h1 h2 seed x)
def bent (p : Int × Int × Int) (seed : Int) (X : Mat) (ids : List Int) (k : Nat) (x : UInt8) : List (Int × Row) :=
  (trueSyms p seed X ids).mapIdx fun i s => if i = k then (s.1, s.2.set 0 (colB s.2 0 ^^^ x)) else s
theorem bent_ids (X : Mat) (ids : List Int) (k : Nat) (x : UInt8) : (bent p seed X ids k x).map Prod.fst = ids := by
  refine List.ext_getElem (by simp [bent, trueSyms]) fun i h1 h2 => ?_
  simp only [bent, trueSyms, List.getElem_map, List.getElem_mapIdx]
  split <;> rfl
theorem bent_get (X : Mat) (ids : List Int) (k : Nat) (x : UInt8) {i : Nat} (hi : i < ids.length) : (bent p seed X ids k x)[i]'(by simpa [bent, trueSyms] using hi) = (ids[i], if i = k then (symB p.2.2.toNat X (colsI (colsP p).toNat seed ids[i])).set 0 (colB (symB p.2.2.toNat X (colsI (colsP p).toNat seed ids[i])) 0 ^^^ x) else symB p.2.2.toNat X (colsI (colsP p).toNat seed ids[i])) := by
  simp only [bent, trueSyms, List.getElem_map, List.getElem_mapIdx]
  split <;> rfl
theorem BlkOk.bentOk (B : BlkOk p seed d K H w n) {ids : List Int} (hid : ∀ i ∈ ids, mayID i = true) (k : Nat) (x : UInt8) : ∀ s ∈ bent p seed (midP p seed d) ids k x, SymOk p s := fun s hs => by
  obtain ⟨i, hi, rfl⟩ := List.getElem_of_mem hs
  have hi' : i < ids.length := by simpa [bent, trueSyms] using hi
  rw [bent_get _ _ _ _ hi']
  refine ⟨hid _ (List.getElem_mem hi'), ?_⟩
  have := B.symLen ids[i]
  dsimp only
  split <;> simp [B.size, B.colsN, this]
theorem bent_zero (B : BlkOk p seed d K H w n) (ids : List Int) (k : Nat) : bent p seed (midP p seed d) ids k 0 = trueSyms p seed (midP p seed d) ids := by
  refine List.ext_getElem (by simp [bent, trueSyms]) fun i h1 h2 => ?_
  have hi' : i < ids.length := by simpa [bent, trueSyms] using h1
  rw [bent_get _ _ _ _ hi']
  simp only [trueSyms, List.getElem_map]
  split
  · congr 1
    rw [UInt8.xor_zero]
    have hl : 0 < (symB p.2.2.toNat (midP p seed d) (colsI (colsP p).toNat seed ids[i])).length := by
      rw [B.size, B.colsN, B.symLen]; exact B.w1
    refine List.ext_getElem (by simp) fun j h3 h4 => ?_
    rw [List.getElem_set]
    split
    · rename_i hj; subst hj
      rw [colB, List.getD_eq_getElem?_getD, List.getElem?_eq_getElem hl]; rfl
    · rfl
  · rfl
def butOne (ids : List Int) (k : Nat) : List Int := ids.eraseIdx k
theorem BlkOk.symSum (B : BlkOk p seed d K H w n) (id : Int) (k : Nat) : colB (symB w (midP p seed d) (colsI n seed id)) k = xsum (at_ (midP p seed d) k) (colsI n seed id) := by
  rw [B.sym, col_dotR B.midLen.2 B.midLen.1 _ k n (Nat.le_refl _), at_sum (X := midP p seed d) (w := w) k id B.n1 B.n2]; rfl
theorem BlkOk.aheadZero (B : BlkOk p seed d K H w n) {k : Nat} (hk : k < w) : ∀ r ∈ aheadRows p.1.toNat p.2.1.toNat, dotN (fun j => colB r j) (fun c => colB (rowB (midP p seed d) c) k) n = 0 := by
  have h := (sym_solves (seed := seed) B.may B.colsN B.size B.n1 B.n2 (l := trueSyms p seed (midP p seed d) []) (fun x hx => by cases hx) (X := midP p seed d)).1 (by have := B.solvesAll (ids := []) (fun i hi => by cases hi); rw [true_ids]; exact this)
  exact (h.2.2 k hk).2
end
end Wl

namespace Wl
theorem full_kernel {n : Nat} {A : Mat} (hA : evenB n A) (hr : rankB A = n) {y : Nat → UInt8} (hy : ∀ r ∈ A, dotN (fun j => colB r j) y n = 0) : ∀ i, i < n → y i = 0 := by
  intro i hi
  let Y : Mat := (List.range n).map fun c => [y c]
  have hB : evenB 1 (List.replicate A.length (zeroB 1)) := fun r hr => by rw [(List.mem_replicate.1 hr).2]; rfl
  have hlen : A.length = (List.replicate A.length (zeroB 1)).length := by simp
  have row0 : ∀ j, j < A.length → rowB (List.replicate A.length (zeroB 1)) j = zeroB 1 := fun j hj => by rw [row_lt (by simpa using hj)]; simp
  have key : ∀ z : Nat → UInt8, (∀ r ∈ A, dotN (fun j => colB r j) z n = 0) → solves n 1 A (List.replicate A.length (zeroB 1)) ((List.range n).map fun c => [z c]) := fun z hz => by
    have hev : evenB 1 ((List.range n).map fun c => [z c]) := fun r hr => by obtain ⟨c, _, rfl⟩ := List.mem_map.1 hr; rfl
    refine ⟨by simp, hev, fun j hj => ?_⟩
    rw [row0 j hj]
    refine row_ext (n := 1) (dotR_len hev (by simp) _ n (Nat.le_refl _)) rfl fun k hk => ?_
    obtain rfl : k = 0 := by omega
    rw [col_dotR hev (by simp) _ 0 n (Nat.le_refl _), col_zero, ← hz _ (mem_row hj)]
    refine dotN_congr n (fun _ _ => rfl) fun c hc => ?_
    rw [row_lt (by simpa using hc)]; simp [colB]
  have u0 := (sol_unique hlen hA hB hr (key (fun _ => 0) fun r _ => dot_zero' r n)).1
  have u1 := (sol_unique hlen hA hB hr (key y hy)).1
  have h : colB (rowB ((List.range n).map fun c => [y c]) i) 0 = colB (rowB ((List.range n).map fun _ => [(0 : UInt8)]) i) 0 := congrArg (fun m => colB (rowB m i) 0) (u1.trans u0.symm)
  rw [row_lt (by simpa using hi), row_lt (by simpa using hi)] at h
  simpa [colB] using h
where
  dot_zero' (r : Row) : ∀ n, dotN (fun j => colB r j) (fun _ => (0 : UInt8)) n = 0
    | 0 => rfl
    | n + 1 => by rw [dotN, dot_zero' r n, Gf.mul_zero]; rfl
section
variable {p : Int × Int × Int} {seed : Int} {d : Row} {K H w n : Nat}
theorem mat_sub {ids js : List Int} (h : ∀ i ∈ ids, i ∈ js) : ∀ r ∈ matI p seed ids, r ∈ matI p seed js := fun r hr => by
  unfold matI at *
  cases hm : mayP p
  · rw [hm] at hr; simp at hr
  · rw [hm, if_pos rfl, List.mem_append] at hr
    rw [if_pos rfl, List.mem_append]
    rcases hr with hr | hr
    · exact .inl hr
    · obtain ⟨i, hi, rfl⟩ := List.mem_map.1 hr
      rw [List.mem_filter] at hi
      exact .inr (List.mem_map.2 ⟨i, List.mem_filter.2 ⟨h i hi.1, hi.2⟩, rfl⟩)
theorem full_more (hm : mayP p = true) {ids js : List Int} (h : ∀ i ∈ ids, i ∈ js) (hf : fullI p seed ids = true) : fullI p seed js = true := by
  have hr := (full_rank hm).1 hf
  refine (full_rank hm).2 ?_
  have hle := rank_le_cols (matI_even p seed js)
  by_cases hlt : rankB (matI p seed js) < (colsP p).toNat
  · exfalso
    obtain ⟨y, ⟨i, hi, hy⟩, hz⟩ := kernel (matI_even p seed js) hlt
    exact hy (full_kernel (matI_even p seed ids) hr (fun r hr => hz r (mat_sub h r hr)) i hi)
  · omega
theorem mem_but {ids : List Int} {k i : Nat} (hi : i < ids.length) (hik : i ≠ k) : ids[i] ∈ butOne ids k := List.mem_eraseIdx_iff_getElem.2 ⟨i, hi, hik, rfl⟩
theorem but_mem {ids : List Int} {k : Nat} {x : Int} (h : x ∈ butOne ids k) : x ∈ ids := List.mem_of_mem_eraseIdx h
theorem xsum_scale (g : UInt8) (y z : Int → UInt8) (l : List Int) : xsum (fun c => y c ^^^ Gf.mul g (z c)) l = xsum y l ^^^ Gf.mul g (xsum z l) := by
  rw [xsum_xor, xsum_mul]
theorem BlkOk.bent_clash (B : BlkOk p seed d K H w n) {ids : List Int} (hid : ∀ i ∈ ids, mayID i = true) {k : Nat} (hk : k < ids.length) {x : UInt8} (hx : x ≠ 0) (hf : fullI p seed (butOne ids k) = true) : decB p seed (bent p seed (midP p seed d) ids k x) = ([], 10) := by
  have hok := B.bentOk hid k x
  have hall : (bent p seed (midP p seed d) ids k x).all (symB? p) = true := List.all_eq_true.2 fun s hs => (sym_ok B.may).2 (hok s hs)
  have hfa := full_more B.may (fun i hi => but_mem hi) hf
  have hw := B.w1
  have hnc : ¬ calmB (colsP p).toNat (matI p seed ids) (midR p (bent p seed (midP p seed d) ids k x)) := fun hc => by
    have hl := mat_mid_len (seed := seed) B.may hok
    rw [bent_ids] at hl
    have hs := sol_solves hl (matI_even p seed ids) (midR_even hok) ((full_rank B.may).1 hfa) hc
    rw [B.colsN, B.size] at hs
    generalize solB n (matI p seed ids) (midR p (bent p seed (midP p seed d) ids k x)) = X at hs
    have hs' := (sym_solves (seed := seed) B.may B.colsN B.size B.n1 B.n2 hok (X := X)).1 (by rw [bent_ids]; exact hs)
    have hid2 : ∀ i ∈ butOne ids k, mayID i = true := fun i hi => hid i (but_mem hi)
    have hok2 : ∀ s ∈ trueSyms p seed (midP p seed d) (butOne ids k), SymOk p s := fun s hs => (sym_ok B.may).1 (List.all_eq_true.1 (B.trueOk hid2) s hs)
    have hX : Wl.solves n w (matI p seed (butOne ids k)) (midR p (trueSyms p seed (midP p seed d) (butOne ids k))) X := by
      have := (sym_solves (seed := seed) B.may B.colsN B.size B.n1 B.n2 hok2 (X := X)).2 ⟨hs'.1, hs'.2.1, fun j hj => ⟨fun s hs => ?_, (hs'.2.2 j hj).2⟩⟩
      · rwa [true_ids] at this
      · obtain ⟨i, hi, rfl⟩ := List.mem_map.1 hs
        obtain ⟨m, hm, hmk, rfl⟩ := List.mem_eraseIdx_iff_getElem.1 hi
        have := (hs'.2.2 j hj).1 _ (List.getElem_mem (show m < (bent p seed (midP p seed d) ids k x).length by simpa [bent, trueSyms] using hm))
        rw [bent_get _ _ _ _ hm, if_neg hmk] at this
        exact this
    have hl2 := mat_mid_len (seed := seed) B.may hok2
    rw [true_ids] at hl2
    have hr2 := (full_rank B.may).1 hf
    rw [B.colsN] at hr2
    have e1 : evenB n (matI p seed (butOne ids k)) := by have := matI_even p seed (butOne ids k); rwa [B.colsN] at this
    have e2 : evenB w (midR p (trueSyms p seed (midP p seed d) (butOne ids k))) := by have := midR_even hok2; rwa [B.size] at this
    have hXm : X = midP p seed d := (sol_unique hl2 e1 e2 hr2 hX).1.trans (sol_unique hl2 e1 e2 hr2 (B.solvesAll hid2)).1.symm
    have hkk := (hs'.2.2 0 (by omega)).1 _ (List.getElem_mem (show k < (bent p seed (midP p seed d) ids k x).length by simpa [bent, trueSyms] using hk))
    rw [bent_get _ _ _ _ hk, if_pos rfl, hXm] at hkk
    dsimp only at hkk
    rw [B.size, B.colsN, ← B.symSum, col_set (by rw [B.symLen]; omega), if_pos rfl] at hkk
    exact hx (by
      have := congrArg (fun z => colB (symB w (midP p seed d) (colsI n seed ids[k])) 0 ^^^ z) hkk
      rw [UInt8.xor_self, ← UInt8.xor_assoc, UInt8.xor_self, UInt8.zero_xor] at this
      exact this.symm)
  unfold decB
  rw [B.may, hall, bent_ids, hfa]
  simp only [Bool.and_self, if_true]
  rw [if_neg hnc]
end
end Wl

namespace Wl
section
variable {p : Int × Int × Int} {seed : Int} {d : Row} {K H w n : Nat}
def shiftB (n : Nat) (X : Mat) (g : UInt8) (y : Nat → UInt8) : Mat := (List.range n).map fun c => (rowB X c).set 0 (colB (rowB X c) 0 ^^^ Gf.mul g (y c))
theorem shift_row {X : Mat} {g : UInt8} {y : Nat → UInt8} {c : Nat} (hc : c < n) : rowB (shiftB n X g y) c = (rowB X c).set 0 (colB (rowB X c) 0 ^^^ Gf.mul g (y c)) := by
  rw [row_lt (by simpa [shiftB] using hc)]; simp [shiftB]
theorem shift_col {X : Mat} {g : UInt8} {y : Nat → UInt8} {c : Nat} (hc : c < n) (hl : 0 < (rowB X c).length) (j : Nat) : colB (rowB (shiftB n X g y) c) j = colB (rowB X c) j ^^^ if j = 0 then Gf.mul g (y c) else 0 := by
  rw [shift_row hc, col_set hl]
  by_cases hj : j = 0
  · subst hj; rw [if_pos rfl, if_pos rfl]
  · rw [if_neg hj, if_neg hj, UInt8.xor_zero]
theorem outB_len {X : Mat} (hm : mayP p = true) (hX : evenB p.2.2.toNat X) (hl : X.length = (colsP p).toNat) (i : Nat) : (outB p seed X i).length = i * p.2.2.toNat := by
  have hmp := (mayP_iff p).1 hm
  have hcp := colsP_eq hm
  induction i with
  | zero => simp [outB]
  | succ i ih =>
    rw [outB_succ, List.length_append, ih, sym_len hX hl fun x hx => colsI_mem (by omega) (by omega) hx, Nat.succ_mul]
theorem BlkOk.bent_free (B : BlkOk p seed d K H w n) {ids : List Int} (hid : ∀ i ∈ ids, mayID i = true) {k : Nat} (hk : k < ids.length) (x : UInt8) (hfa : fullI p seed ids = true) (hno : fullI p seed (butOne ids k) = false) :
    ∃ out : Row, decB p seed (bent p seed (midP p seed d) ids k x) = (out, 0) ∧ out.length = K * w := by
  have hok := B.bentOk hid k x
  have hall : (bent p seed (midP p seed d) ids k x).all (symB? p) = true := List.all_eq_true.2 fun s hs => (sym_ok B.may).2 (hok s hs)
  have hw := B.w1
  have eA := matI_even p seed ids
  have eA' := matI_even p seed (butOne ids k)
  have hr := (full_rank B.may).1 hfa
  rw [B.colsN] at eA eA' hr
  have hlt : rankB (matI p seed (butOne ids k)) < n := by
    have hle := rank_le_cols eA'
    rcases Nat.lt_or_ge (rankB (matI p seed (butOne ids k))) n with h | h
    · exact h
    · have : fullI p seed (butOne ids k) = true := (full_rank B.may).2 (by rw [B.colsN]; omega)
      rw [hno] at this; cases this
  obtain ⟨y, ⟨i0, hi0, hy0⟩, hz⟩ := kernel eA' hlt
  have hahd : ∀ r ∈ aheadRows p.1.toNat p.2.1.toNat, dotN (fun j => colB r j) y n = 0 := fun r hr => hz r (by
    unfold matI; rw [B.may, if_pos rfl]; exact List.mem_append.2 (.inl hr))
  have hrow : ∀ i, (hi : i < ids.length) → i ≠ k → dotN (fun j => colB (rowI n seed ids[i]) j) y n = 0 := fun i hi hik => hz _ (by
    unfold matI; rw [B.may, if_pos rfl, B.colsN]
    exact List.mem_append.2 (.inr (List.mem_map.2 ⟨ids[i], List.mem_filter.2 ⟨mem_but hi hik, hid _ (List.getElem_mem hi)⟩, rfl⟩)))
  obtain ⟨t, ht⟩ : ∃ t, t = dotN (fun j => colB (rowI n seed ids[k]) j) y n := ⟨_, rfl⟩
  have ht0 : t ≠ 0 := fun h0 => by
    refine hy0 (full_kernel eA hr (fun r hr => ?_) i0 hi0)
    unfold matI at hr
    rw [B.may, if_pos rfl, B.colsN, List.mem_append] at hr
    rcases hr with hr | hr
    · exact hahd r hr
    · obtain ⟨z, hz1, rfl⟩ := List.mem_map.1 hr
      obtain ⟨i, hi, rfl⟩ := List.getElem_of_mem (List.mem_filter.1 hz1).1
      by_cases hik : i = k
      · subst hik; rw [← ht, h0]
      · exact hrow i hi hik
  obtain ⟨g, hg⟩ : ∃ g, g = Gf.mul x (Gf.inv t) := ⟨_, rfl⟩
  have hgt : Gf.mul g t = x := by rw [hg, Gf.mul_assoc, Gf.mul_comm (Gf.inv t) t, Gf.mul_inv ht0, Gf.mul_one]
  have hml := B.midLen
  have hrl : ∀ c, c < n → (rowB (midP p seed d) c).length = w := fun c hc => even_row hml.2 (by omega)
  have hSl : (shiftB n (midP p seed d) g y).length = n := by simp [shiftB]
  have hSe : evenB w (shiftB n (midP p seed d) g y) := fun r hr => by
    obtain ⟨c, hc, rfl⟩ := List.mem_map.1 hr
    rw [List.length_set]; exact hrl c (List.mem_range.1 hc)
  have hsum : ∀ id j, xsum (at_ (shiftB n (midP p seed d) g y) j) (colsI n seed id) = xsum (at_ (midP p seed d) j) (colsI n seed id) ^^^ if j = 0 then Gf.mul g (dotN (fun m => colB (rowI n seed id) m) y n) else 0 := fun id j => by
    have e1 : xsum (at_ (shiftB n (midP p seed d) g y) j) (colsI n seed id) = xsum (fun c => at_ (midP p seed d) j c ^^^ Gf.mul (if j = 0 then g else 0) (y c.toNat)) (colsI n seed id) := xsum_congr fun c hc => by
      have hc2 := colsI_mem B.n1 B.n2 hc
      unfold at_
      rw [shift_col (by omega) (by rw [hrl _ (by omega)]; omega)]
      by_cases hj : j = 0
      · rw [if_pos hj, if_pos hj]
      · rw [if_neg hj, if_neg hj, Gf.zero_mul]
    rw [e1, xsum_scale (if j = 0 then g else 0) (at_ (midP p seed d) j) (fun c => y c.toNat), at_sum (X := midP p seed d) (w := w) 0 id B.n1 B.n2 y]
    by_cases hj : j = 0
    · rw [if_pos hj, if_pos hj]
    · rw [if_neg hj, if_neg hj, Gf.zero_mul]
  have hs : Wl.solves n w (matI p seed ids) (midR p (bent p seed (midP p seed d) ids k x)) (shiftB n (midP p seed d) g y) := by
    have := (sym_solves (seed := seed) B.may B.colsN B.size B.n1 B.n2 hok (X := shiftB n (midP p seed d) g y)).2 ⟨hSl, hSe, fun j hj => ⟨fun s hs => ?_, fun r hr => ?_⟩⟩
    · rwa [bent_ids] at this
    · obtain ⟨i, hi, rfl⟩ := List.getElem_of_mem hs
      have hi' : i < ids.length := by simpa [bent, trueSyms] using hi
      rw [bent_get _ _ _ _ hi']
      dsimp only
      rw [hsum, B.size, B.colsN, ← B.symSum]
      by_cases hik : i = k
      · subst hik
        rw [if_pos rfl, col_set (by rw [B.symLen]; omega), ← ht]
        by_cases hj0 : j = 0
        · rw [if_pos hj0, if_pos hj0, hgt, hj0]
        · rw [if_neg hj0, if_neg hj0, UInt8.xor_zero]
      · rw [if_neg hik, hrow i hi' hik, Gf.mul_zero]; simp
    · have h1 := B.aheadZero hj r hr
      have h2 := hahd r hr
      have e1 : dotN (fun j => colB r j) (fun c => colB (rowB (shiftB n (midP p seed d) g y) c) j) n = dotN (fun j => colB r j) (fun c => colB (rowB (midP p seed d) c) j ^^^ Gf.mul (if j = 0 then g else 0) (y c)) n := dotN_congr n (fun _ _ => rfl) fun c hc => by
        rw [shift_col hc (by rw [hrl c hc]; omega)]
        by_cases hj0 : j = 0
        · rw [if_pos hj0, if_pos hj0]
        · rw [if_neg hj0, if_neg hj0, Gf.zero_mul]
      rw [e1, dotN_xor, dotN_mul, h1, h2, Gf.mul_zero, UInt8.xor_zero]
  have hl := mat_mid_len (seed := seed) B.may hok
  rw [bent_ids] at hl
  have e2 : evenB w (midR p (bent p seed (midP p seed d) ids k x)) := by have := midR_even hok; rwa [B.size] at this
  have hu := sol_unique hl eA e2 hr hs
  refine ⟨outB p seed (shiftB n (midP p seed d) g y) p.1.toNat, ?_, ?_⟩
  · unfold decB
    rw [B.may, hall, bent_ids, hfa, B.colsN]
    simp only [Bool.and_self, if_true]
    rw [if_pos hu.2, ← hu.1]
  · rw [outB_len B.may (by rw [B.size]; exact hSe) (by rw [B.colsN]; exact hSl), B.size]
    have := B.k
    rw [show p.1.toNat = K by omega]
end
end Wl

namespace Go.Proofs.YtkcplnfomahleaaGreatDoor
open Go Go.Vc Go.Proofs Wl
set_option maxRecDepth 100000
set_option maxHeartbeats 1000000 in
theorem clash_spec (a b c seed : Int) (data : Sl) (dl : Row) (more at_ : Int) (z : UInt8) (h : Heap) (hd : Rd h data 1 u8v dl) :
    Meets Tryz.prog wellspringlaw14_DecodeClash_id #[.int .i64 a, .int .i64 b, .int .i64 c, .int .u64 seed, .slice data.ptr data.len data.cap, .int .i64 more, .int .i64 at_, .int .u8 z.toNat] h fun v h' => v = .bool true ∧ Pres (fun b => b < h.size) h h' := by
  refine wellspringlaw14_DecodeClash_run a b c seed data more at_ _ ?_
  unfold wellspringlaw14_DecodeClash_m
  refine (params_spec a b c h).mono ?_
  rintro _ h1 ⟨rfl, R1⟩
  obtain ⟨p, hp⟩ : ∃ p, p = playP a b c := ⟨_, rfl⟩
  have hmay : mayP p = true := by rw [hp]; exact playP_may a b c
  rw [← hp]
  have hmp := (mayP_iff p).1 hmay
  refine ⟨p, rfl, R1.alloc C_ok rfl fun a2 h2 H2 => ?_⟩
  refine H2.storeAll C_ok 0 rfl rfl [.int .i64 p.1, .int .i64 p.2.1, .int .i64 p.2.2] rfl rfl rfl rfl fun h3 H3 => ?_
  refine ⟨p, (H3.box 0 rfl).cells0 _ rfl, (seed_spec p seed h3).mono ?_⟩
  rintro _ h4 ⟨s, rfl, R4⟩
  have H4 := H3.up R4.pres
  refine ⟨s, rfl, join_in ⟨p, (H4.box 0 rfl).cells0 _ rfl, p.1, (H4.box 0 rfl).cell0 rfl, p.2.2, (H4.box 0 rfl).cell rfl, ?_⟩⟩
  obtain ⟨K, hK⟩ : ∃ K : Nat, p.1 = K := ⟨p.1.toNat, by omega⟩
  obtain ⟨Hh, hH⟩ : ∃ H : Nat, p.2.1 = H := ⟨p.2.1.toNat, by omega⟩
  obtain ⟨w, hw⟩ : ∃ w : Nat, p.2.2 = w := ⟨p.2.2.toNat, by omega⟩
  have hKw : K * w ≤ 16 * 24 := Nat.mul_le_mul (by omega) (by omega)
  have eKw : p.1 * p.2.2 = ((K * w : Nat) : Int) := by rw [hK, hw, Int.natCast_mul]
  rw [eKw, i64_of_nat _ (by omega)]
  refine (data_spec data dl (K * w) h4 (Seq.up hd H4.pres) (by omega)).mono ?_
  rintro _ h5 ⟨x, rfl, R5⟩
  have H5 := H4.comp R5
  have hxl := dataB_len dl (K * w)
  have hxc := (H5.own 1 rfl).cap
  have hxn := (H5.own 1 rfl).len
  have hb5 := H5.box 0 rfl
  refine ⟨x, rfl, ⟨hb5.cell rfl, hb5.cell0 rfl, hb5.cell0 rfl, hb5.cell rfl, hb5.cell rfl, trivial⟩, ?_⟩
  generalize dataB dl (K * w) = d at *
  refine (new_spec p s x d h5 (H5.seq 1 rfl fun _ => rfl) hxc).mono ?_
  rintro v h6 ⟨n1, n2⟩
  have hnew : newE p s d.length = if fullI p s (firstI p) then 0 else 8 := by rw [newE, hmay, decide_eq_true (by rw [eKw, hxl])]; rfl
  cases hf : fullI p s (firstI p) with
  | false =>
    rw [hf, if_neg (by simp)] at hnew
    obtain ⟨rfl, R6⟩ := n2 (by rw [hnew]; decide)
    rw [hnew]
    have H6 := H5.up R6.pres
    have hb6 := H6.box 0 rfl
    refine ⟨(none, 8), rfl, ⟨hb6.cell rfl, hb6.cell0 rfl, trivial⟩, join_in ?_⟩
    refine br_ne (fun _ => br_eq (fun _ => ?_) (fun e => absurd rfl e)) (fun e => absurd e (by decide))
    refine (dwakes_spec h6).mono ?_
    rintro _ h7 ⟨rfl, R7⟩
    exact ⟨_, rfl, rfl, (H6.up R7.pres).pres⟩
  | true =>
    rw [hf, if_pos rfl] at hnew
    obtain ⟨y, m, rfl, R6⟩ := n1 hnew
    have B : BlkOk p s d K Hh w (K + Hh) := ⟨hmay, hf, hK, hH, hw, rfl, by omega, by omega, by omega, by omega, by omega, by omega, by omega⟩
    have H6 := H5.comp R6
    have hb6 := H6.box 0 rfl
    refine ⟨(some y, 0), rfl, ⟨hb6.cell rfl, hb6.cell0 rfl, trivial⟩, join_in ?_⟩
    refine br_ne (fun e => absurd rfl e) fun _ => br_b (fun e => by cases e) fun _ => ?_
    obtain ⟨mm, hmm⟩ : ∃ mm : Nat, more % 8 = mm := ⟨(more % 8).toNat, by have := Int.emod_nonneg more (show (8 : Int) ≠ 0 by decide); omega⟩
    have hm8 : mm < 8 := by have := Int.emod_lt_of_pos more (show (0 : Int) < 8 by decide); omega
    obtain ⟨N, hN⟩ : ∃ N, N = K + mm := ⟨_, rfl⟩
    have hK1 := B.k1
    have hw1 := B.w1
    let sB : Nat → Row := fun j => symB w (midP p s d) (colsI (K + Hh) s (j : Int))
    have hsBl : ∀ j, (sB j).length = w := fun j => B.symLen (j : Int)
    let rows : Nat → List Row := fun i => (List.range i).map sB
    let hds : List Sl → List (Int × Sl) := fun rs => rs.zipIdx.map fun t => ((t.2 : Int), t.1)
    have hdsl : ∀ rs, (hds rs).length = rs.length := fun rs => by simp [hds]
    have hdss : ∀ rs (r : Sl), hds (rs ++ [r]) = hds rs ++ [((rs.length : Int), r)] := fun rs r => by simp [hds, List.zipIdx_append]
    have hdsg : ∀ (rs : List Sl) (j : Nat) (hj : j < rs.length), (hds rs)[j]'(by rw [hdsl]; exact hj) = ((j : Int), rs[j]) := fun rs j hj => by simp [hds]
    let Q : Sl → List Sl → List HP := fun o rs => [BoxA a2 T_api_Params [.int .i64 p.1, .int .i64 p.2.1, .int .i64 p.2.2], MA m (midP p s d), BoxA y T_encode_Block (blkC p s m), OwnA T_api_Symbol o 2 yv (hds rs)]
    have H7 : Sp h h6 (Q ⟨none, 0, 0⟩ [] ++ ownRows T_uint8 1 u8v [] []) := (H6.nil T_api_Symbol 2 yv).sel [0, 2, 3, 4]
    refine loop_inv (fun t : List Sl × Sl => (t.2, (t.1.length : Int))) (fun t h' => t.1.length ≤ N ∧ Sp h h' (Q t.2 t.1 ++ ownRows T_uint8 1 u8v t.1 (rows t.1.length))) (fun t => N - t.1.length) ([], ⟨none, 0, 0⟩) rfl ⟨by simp, H7⟩ ?_
    rintro ⟨rs, o⟩ h8 ⟨hi8, H8⟩
    dsimp only at *
    have hrl : rs.length = (rows rs.length).length := by simp [rows]
    refine ⟨p.1, (H8.box 0 rfl).cell0 rfl, (within_spec more 8 h8 (by decide) (by decide)).mono ?_⟩
    rintro _ h9 ⟨rfl, rfl⟩
    rw [hmm]
    refine ⟨_, rfl, ⟨(H8.box 0 rfl).cell0 rfl, trivial⟩, ?_⟩
    rw [Go.Vc.wrap_small (p.1 + (mm : Int)) (by omega) (by omega)]
    refine br_dec (fun e => ?_) (fun e => ?_)
    · have hi' : rs.length < N := by omega
      refine (B.symbol y (rs.length : Int) h9 ⟨m, H8.box 2 rfl, H8.rd2 1 rfl⟩).mono ?_
      rintro _ h10 ⟨r, rfl, R10⟩
      have hmi : mayID (rs.length : Int) = true := by unfold mayID; simp; omega
      rw [hmi, if_pos rfl] at R10
      have H10 := H8.comp R10
      rw [List.append_assoc, ← ownRows_snoc hrl] at H10
      refine ⟨r, rfl, ?_⟩
      have hdl8 := hdsl rs
      refine H10.push C_ok 3 rfl eSym rfl (by decide) (fun _ => rfl) one_yv ((rs.length : Int), r) rfl (by decide) (by omega) fun o' h11 H11 => ?_
      refine ⟨(rs ++ [r], o'), by simp only [List.length_append, List.length_singleton]; rw [Go.Vc.wrap_small _ (by omega) (by omega)]; rfl, ⟨by simp; omega, ?_⟩, by simp; omega⟩
      have er : rows (rs ++ [r]).length = rows rs.length ++ [sB rs.length] := by
        simp only [rows, List.length_append, List.length_singleton]; rw [List.range_succ, List.map_append]; rfl
      show Sp h h11 (Q o' (rs ++ [r]) ++ ownRows T_uint8 1 u8v (rs ++ [r]) (rows (rs ++ [r]).length))
      rw [er]
      simp only [Q]
      rw [hdss]
      exact H11
    have hrN : rs.length = N := by omega
    have hol : o.len = N := by rw [(H8.own 3 rfl).len, hdsl]; exact hrN
    rw [hrN] at H8
    have hrl2 : rs.length = (rows N).length := by simp only [rows, List.length_map, List.length_range]; exact hrN
    refine (within_spec at_ (o.len : Int) h9 (by omega) (by omega)).mono ?_
    rintro _ h10 ⟨rfl, rfl⟩
    obtain ⟨k, hk⟩ : ∃ k : Nat, at_ % (o.len : Int) = k := ⟨(at_ % (o.len : Int)).toNat, by have := Int.emod_nonneg at_ (show ((o.len : Int)) ≠ 0 by omega); omega⟩
    have hkN : k < N := by have := Int.emod_lt_of_pos at_ (show 0 < (o.len : Int) by omega); omega
    rw [hk]
    refine ⟨_, rfl, ?_⟩
    have hkr : k < rs.length := by omega
    have hgk : (Q o rs ++ ownRows T_uint8 1 u8v rs (rows N))[4 + k]? = some (OwnA T_uint8 rs[k] 1 u8v (sB k)) := by
      have := ownRows_get (e := T_uint8) (k := 1) (f := u8v) hrl2 k (by omega)
      rw [List.getElem?_append_right (by simp [Q]), show 4 + k - (Q o rs).length = k by simp [Q], this]
      simp [rows]
    have hxk : (rs[k]).len = w := by rw [(H8.own (4 + k) hgk).len]; exact hsBl k
    obtain ⟨a21, ha, yy, hc, hyy⟩ := (H8.seq 3 rfl fun _ => rfl).getk (g := yv) (i := (k : Int)) k rfl (by rw [hdsl]; exact hkr) ((k : Int), rs[k]) (by rw [hdsg]) (K := fun t => t = ((k : Int), rs[k])) rfl
    subst hyy
    refine ⟨a21, ha, rs[k], hc.2.1, p.2.2, (H8.box 0 rfl).cell rfl, br_ne (fun e => absurd (by rw [hxk, hw]) e) fun _ => ?_⟩
    refine ⟨a21, ha, rs[k], hc.2.1, ?_⟩
    have hs0 : 0 < (sB k).length := by rw [hsBl]; omega
    refine (H8.seq (4 + k) hgk fun _ => rfl).get1 0 rfl hs0 _ rfl ?_
    rw [xor_u8]
    refine H8.set C_ok (4 + k) hgk (fun _ => rfl) rfl 0 rfl hs0 ((sB k)[0] ^^^ z) rfl rfl rfl fun h11 H11 => ?_
    obtain ⟨rows', hrows'⟩ : ∃ rows', rows' = (rows N).set k ((sB k).set 0 ((sB k)[0] ^^^ z)) := ⟨_, rfl⟩
    have H12 : Sp h h11 (Q o rs ++ ownRows T_uint8 1 u8v rs rows') := by
      rw [List.set_append_right _ _ (by simp [Q]), show 4 + k - (Q o rs).length = k by simp [Q], ownRows_set' hrl2 k (by omega), ← hrows'] at H11
      exact H11
    have hrl3 : rs.length = rows'.length := by rw [hrows', List.length_set]; exact hrl2
    let oth : Nat → List Int := fun i => ((List.range i).filter fun j => !decide (j = k)).map fun j : Nat => (j : Int)
    have hothl : ∀ i, (oth i).length ≤ i := fun i => by simp only [oth, List.length_map]; exact Nat.le_trans (List.length_filter_le _ _) (by simp)
    have H13 : Sp h h11 (OwnA T_int ⟨none, 0, 0⟩ 1 intv (oth 0) :: (Q o rs ++ ownRows T_uint8 1 u8v rs rows')) := (H12.nil T_int 1 intv).front1
    refine loop_inv (fun t : Nat × Sl => (t.2, (t.1 : Int))) (fun t h' => t.1 ≤ N ∧ Sp h h' (OwnA T_int t.2 1 intv (oth t.1) :: (Q o rs ++ ownRows T_uint8 1 u8v rs rows'))) (fun t => N - t.1) (0, ⟨none, 0, 0⟩) rfl ⟨by omega, H13⟩ ?_
    rintro ⟨i, u⟩ h12 ⟨hi12, H14⟩
    dsimp only at *
    have ho := hothl i
    refine br_dec (fun e2 => ?_) (fun e2 => ?_)
    · have hi' : i < N := by omega
      have eo : oth (i + 1) = oth i ++ if i = k then [] else [(i : Int)] := by
        simp only [oth]; rw [List.range_succ, List.filter_append, List.map_append]; by_cases hik : i = k <;> simp [hik]
      refine br_ne (fun e3 => ?_) (fun e3 => ?_)
      · have hik : i ≠ k := fun hh => e3 (by rw [hh])
        rw [if_neg hik] at eo
        refine H14.push C_ok 0 rfl eInt rfl (by decide) (fun _ => rfl) one_int (i : Int) rfl (by decide) (by omega) fun u' h13 H15 => ?_
        exact ⟨(i + 1, u'), by dsimp only; rw [Go.Vc.wrap_small _ (by omega) (by omega)]; rfl, ⟨by dsimp only; omega, by dsimp only; rw [eo]; exact H15⟩, by dsimp only; omega⟩
      · have hik : i = k := by omega
        rw [if_pos hik, List.append_nil] at eo
        exact ⟨(i + 1, u), by dsimp only; rw [Go.Vc.wrap_small _ (by omega) (by omega)]; rfl, ⟨by dsimp only; omega, by dsimp only; rw [eo]; exact H14⟩, by dsimp only; omega⟩
    have hie : i = N := by omega
    subst hie
    have hul : (upto i).length = i := upto_len i
    have hug : ∀ j (hj : j < i), (upto i)[j]'(by rw [hul]; exact hj) = (j : Int) := fun j hj => by simp [upto]
    have hid : ∀ x ∈ upto i, mayID x = true := fun x hx => by
      obtain ⟨j, hj, rfl⟩ := List.mem_map.1 hx
      have := List.mem_range.1 hj
      unfold mayID; simp; omega
    obtain ⟨sy, hsy⟩ : ∃ sy, sy = bent p s (midP p s d) (upto i) k z := ⟨_, rfl⟩
    have hsyl : sy.length = i := by rw [hsy]; simp [bent, trueSyms, hul]
    have hE : RdE EltYs h12 o sy := by
      refine ⟨hds rs, H14.seq 4 rfl fun _ => rfl, by rw [hdsl, hsyl]; exact hrN, fun j q l h1 h2 => ?_⟩
      have hj : j < i := by have := (List.getElem?_eq_some_iff.1 h2).1; omega
      rw [List.getElem?_eq_getElem (by rw [hdsl]; omega), hdsg rs j (by omega)] at h1
      have hjr : j < rows'.length := by omega
      have h3 : sy[j]? = some ((j : Int), rows'[j]'hjr) := by
        rw [hsy, List.getElem?_eq_getElem (by simpa [bent, trueSyms, hul] using hj), bent_get _ _ _ _ (by rw [hul]; exact hj), hug j hj, B.size, B.colsN]
        subst hrows'
        rw [List.getElem_set]
        have hrj : (rows i)[j]'(by simp only [rows, List.length_map, List.length_range]; exact hj) = sB j := by simp [rows]
        by_cases hjk : j = k
        · subst hjk
          rw [if_pos rfl, if_pos rfl]
          have : colB (sB j) 0 = (sB j)[0] := by rw [colB, List.getD_eq_getElem?_getD, List.getElem?_eq_getElem hs0]; rfl
          show some ((j : Int), (sB j).set 0 (colB (sB j) 0 ^^^ z)) = _
          rw [this]
        · rw [if_neg hjk, if_neg (fun hh => hjk hh.symm), hrj]
      rw [h3] at h2
      simp only [Option.some.injEq] at h1 h2
      subst h1; subst h2
      refine ⟨rfl, ?_⟩
      have hg := ownRows_get (e := T_uint8) (k := 1) (f := u8v) hrl3 j (by omega)
      exact H14.seq (j + 5) (by
        rw [List.getElem?_cons_succ, List.getElem?_append_right (by simp [Q]), show j + 4 - (Q o rs).length = j by simp [Q]]; exact hg) fun _ => rfl
    refine ⟨p, (H14.box 1 rfl).cells0 _ rfl, (block_spec p s o sy h12 hE (by omega)).mono ?_⟩
    rintro _ h13 ⟨r, rfl, R13⟩
    have H15 := H14.comp1 R13
    refine ⟨(r, (decB p s sy).2), rfl, ?_⟩
    have hfa : fullI p s (upto i) = true := full_more hmay (fun x hx => by
      rw [first_upto hK (by omega)] at hx
      obtain ⟨j, hj, rfl⟩ := List.mem_map.1 hx
      exact List.mem_map.2 ⟨j, List.mem_range.2 (by have := List.mem_range.1 hj; omega), rfl⟩) hf
    have hoth : fullI p s (oth i) = fullI p s (butOne (upto i) k) := full_same fun x => by
      constructor
      · intro hx
        obtain ⟨j, hj, rfl⟩ := List.mem_map.1 hx
        rw [List.mem_filter, List.mem_range] at hj
        have := mem_but (ids := upto i) (k := k) (i := j) (by rw [hul]; exact hj.1) (by simpa using hj.2)
        rwa [hug j hj.1] at this
      · intro hx
        obtain ⟨j, hj, hjk, rfl⟩ := List.mem_eraseIdx_iff_getElem.1 hx
        have hj2 : j < i := by rw [hul] at hj; exact hj
        rw [hug j hj2]
        exact List.mem_map.2 ⟨j, List.mem_filter.2 ⟨List.mem_range.2 hj2, by simpa using hjk⟩, rfl⟩
    have hki : k < (upto i).length := by rw [hul]; exact hkN
    have fin : ∀ {h' : Heap} {As : List HP}, Sp h h' As → CallM Tryz.prog wellspringlaw14_wakes_id #[] (.one (.sc .bool)) h' fun r h'' => Value.bool r = .bool true ∧ Pres (fun b => b < h.size) h h'' := fun {h' As} H' => (dwakes_spec h').mono (by
      rintro _ h'' ⟨rfl, R''⟩
      exact ⟨_, rfl, rfl, (H'.up R''.pres).pres⟩)
    have okc : ∀ {h' : Heap} {out : Row}, decB p s sy = (out, 0) → out.length = K * w → Sp h h' (OwnA T_uint8 r 1 u8v (decB p s sy).1 :: OwnA T_int u 1 intv (oth i) :: (Q o rs ++ ownRows T_uint8 1 u8v rs rows')) → Br ((decB p s sy).2 == (0 : Int)) (∃ x39 : Int, cellOf h' a2 = some (.int .i64 x39) ∧ ∃ x40 : Int, cellOf h' (a2.add 2) = some (.int .i64 x40) ∧
        Br (((r.len : Nat) : Int) == (IntKind.wrap .i64 (x39 * x40))) (CallM Tryz.prog wellspringlaw14_wakes_id #[] (.one (.sc .bool)) h' fun r41 h26 => Value.bool r41 = .bool true ∧ Pres (fun b => b < h.size) h h26) (Value.bool false = .bool true ∧ Pres (fun b => b < h.size) h h')) (Value.bool false = .bool true ∧ Pres (fun b => b < h.size) h h') := fun {h' out} he hl H' => by
      have hrl4 := (H'.own 0 rfl).len
      rw [he] at hrl4
      rw [he]
      refine br_eq (fun _ => ⟨p.1, (H'.box 2 rfl).cell0 rfl, p.2.2, (H'.box 2 rfl).cell rfl, ?_⟩) (fun e => absurd rfl e)
      rw [eKw, i64_of_nat _ (by omega)]
      refine br_eq (fun _ => fin H') (fun e => absurd (by rw [hrl4]; dsimp only; rw [hl]) e)
    refine join_in (join_in ?_)
    by_cases hz : z = 0
    · subst hz
      refine br_ne (fun e => absurd rfl e) (fun _ => br_b (fun e => by cases e) fun _ => ?_)
      exact okc (out := d) (by rw [hsy, bent_zero B, B.dec hid hfa]) hxl H15
    · refine br_ne (fun _ => ?_) (fun e => absurd (nat0.1 e) hz)
      refine ⟨p, (H15.box 2 rfl).cells0 _ rfl, (full_spec p s u (oth i) h13 (H15.seq 1 rfl fun _ => rfl) (by omega)).mono ?_⟩
      rintro _ h14 ⟨rfl, R14⟩
      have H16 := H15.up R14.pres
      rw [hoth]
      refine ⟨_, rfl, ?_⟩
      cases hfu : fullI p s (butOne (upto i) k) with
      | true =>
        have hdec : decB p s sy = ([], 10) := by rw [hsy]; exact B.bent_clash hid hki hz hfu
        have hrl4 := (H16.own 0 rfl).len
        rw [hdec] at hrl4
        rw [hdec]
        refine br_b (fun _ => ?_) (fun e => by cases e)
        refine br_eq (fun _ => br_eq (fun _ => fin H16) (fun e => absurd (by rw [hrl4]; rfl) e)) (fun e => absurd rfl e)
      | false =>
        obtain ⟨out, h1, h2⟩ := B.bent_free hid hki z hfa hfu
        refine br_b (fun e => by cases e) (fun _ => ?_)
        exact okc (out := out) (by rw [hsy]; exact h1) h2 H16
theorem clash_law (a b c seed : Int) (data : Sl) (dl : Row) (more at_ x : Int) (h : Heap) (hd : Rd h data 1 u8v dl) (hx : 0 ≤ x ∧ x ≤ 255) :
    Meets Tryz.prog wellspringlaw14_DecodeClash_id #[.int .i64 a, .int .i64 b, .int .i64 c, .int .u64 seed, .slice data.ptr data.len data.cap, .int .i64 more, .int .i64 at_, .int .u8 x] h fun v h' => v = .bool true ∧ Pres (fun b => b < h.size) h h' := by
  have hr : x = ((UInt8.ofNat x.toNat).toNat : Int) := by
    have h2 : (UInt8.ofNat x.toNat).toNat = x.toNat % 256 := by simp
    rw [h2]; omega
  rw [hr]
  exact clash_spec a b c seed data dl more at_ _ h hd
end Go.Proofs.YtkcplnfomahleaaGreatDoor
