/- Part of the proofs that wellspringlaw14's laws answer true whatever the input reads, and leave it as it was; no condition. -/
import Derived.Test.YtkcplnfomahleaaGreatDoorHpA
set_option linter.unusedVariables false
set_option linter.unusedSimpArgs false
namespace Gf
set_option maxRecDepth 100000
theorem all8 {p : UInt8 → Prop} (h : ∀ n, n < 256 → p (UInt8.ofNat n)) (a : UInt8) : p a := by
  have := h a.toNat (UInt8.toNat_lt a)
  rwa [UInt8.ofNat_toNat] at this
def x2 (a : UInt8) : UInt8 := (a <<< 1) ^^^ (if a &&& 0x80 = 0 then 0 else 0x1b)
def x3 (a : UInt8) : UInt8 := x2 a ^^^ a
def pw : Nat → UInt8
  | 0 => 1
  | n + 1 => x3 (pw n)
theorem xor_and (a b c : UInt8) : (a ^^^ b) &&& c = (a &&& c) ^^^ (b &&& c) := by
  apply UInt8.toBitVec_inj.1
  simp [UInt8.toBitVec_xor, UInt8.toBitVec_and]
  ext i hi
  simp [Bool.and_xor_distrib_right]
theorem xor_shl (a b : UInt8) : (a ^^^ b) <<< 1 = (a <<< 1) ^^^ (b <<< 1) := by
  apply UInt8.toBitVec_inj.1
  simp [UInt8.toBitVec_xor, UInt8.toBitVec_shiftLeft, BitVec.shiftLeft_xor_distrib]
theorem high_two : ∀ a : UInt8, a &&& 0x80 = 0 ∨ a &&& 0x80 = 0x80 := all8 (by decide +kernel)
theorem xor4 (a b c d : UInt8) : (a ^^^ b) ^^^ (c ^^^ d) = (a ^^^ c) ^^^ (b ^^^ d) := by ac_rfl
theorem x2_xor (a b : UInt8) : x2 (a ^^^ b) = x2 a ^^^ x2 b := by
  unfold x2
  rw [xor_and, xor_shl]
  rcases high_two a with ha | ha <;> rcases high_two b with hb | hb <;> rw [ha, hb]
  · simp
  · simp [UInt8.xor_assoc]
  · rw [xor4]; simp
  · rw [xor4]; simp
theorem x3_xor (a b : UInt8) : x3 (a ^^^ b) = x3 a ^^^ x3 b := by unfold x3; rw [x2_xor, xor4]
def it3 : Nat → UInt8 → UInt8
  | 0, a => a
  | n + 1, a => x3 (it3 n a)
theorem it3_xor (a b : UInt8) : ∀ n, it3 n (a ^^^ b) = it3 n a ^^^ it3 n b
  | 0 => rfl
  | n + 1 => by simp only [it3, it3_xor a b n, x3_xor]
theorem it3_add (a : UInt8) (m : Nat) : ∀ n, it3 (n + m) a = it3 n (it3 m a)
  | 0 => by simp [it3]
  | n + 1 => by rw [Nat.add_right_comm]; simp only [it3, it3_add a m n]
theorem it3_zero : ∀ n, it3 n 0 = 0
  | 0 => rfl
  | n + 1 => by rw [it3, it3_zero n]; rfl
theorem pw_it3 : ∀ n, pw n = it3 n 1
  | 0 => rfl
  | n + 1 => by rw [pw, it3, pw_it3 n]
def logs : Nat := 939374623831894136699086600277250597547650664638770418422125146541797353646788332867483593573384618611044815625336497665827114626705134492515730415652478061620339993830966980270842846318821775850471098591710629241171812800746666233448222972174585295916389942636813666312872914849454985560152530477328703759683306625234997237483834721220409437442253146756845415190424543171129629468776480674528486868811725071010351012234056630775688111116293610821126543142160426617079940511630006820862697466582575257349116925728488930366609138264019883664906661504235885380294353134295748489096855100647154935187045898006656778240
def lg (a : UInt8) : Nat := (logs >>> (8 * a.toNat)) % 256
theorem lg_lt : ∀ a : UInt8, lg a < 255 := all8 (by decide +kernel)
theorem pw_lg : ∀ a : UInt8, a ≠ 0 → pw (lg a) = a := all8 (by decide +kernel)
theorem lg_pw : ∀ n, n < 255 → lg (pw n) = n := by decide +kernel
theorem pw_255 : pw 255 = 1 := by decide +kernel
theorem pw_ne : ∀ n, n < 255 → pw n ≠ 0 := by decide +kernel
theorem pw_add255 (n : Nat) : pw (n + 255) = pw n := by
  rw [pw_it3, it3_add, ← pw_it3 255, pw_255, ← pw_it3]
theorem pw_mod (n : Nat) : pw (n % 255) = pw n := by
  have : ∀ k m, pw (m + 255 * k) = pw m := by
    intro k
    induction k with
    | zero => intro m; rfl
    | succ k ih => intro m; rw [Nat.mul_succ, ← Nat.add_assoc, pw_add255, ih]
  have h := this (n / 255) (n % 255)
  rw [Nat.mod_add_div] at h
  exact h.symm
def mul (a b : UInt8) : UInt8 := if a = 0 ∨ b = 0 then 0 else pw ((lg a + lg b) % 255)
def inv (a : UInt8) : UInt8 := if a = 0 then 0 else pw ((255 - lg a) % 255)
theorem mul_zero (a : UInt8) : mul a 0 = 0 := by simp [mul]
theorem zero_mul (a : UInt8) : mul 0 a = 0 := by simp [mul]
theorem mul_comm (a b : UInt8) : mul a b = mul b a := by
  unfold mul
  rw [Nat.add_comm]
  by_cases h : a = 0 ∨ b = 0
  · rw [if_pos h, if_pos h.symm]
  · rw [if_neg h, if_neg fun x => h x.symm]
theorem mul_it (a b : UInt8) (ha : a ≠ 0) : mul a b = it3 (lg a) b := by
  by_cases hb : b = 0
  · subst hb; rw [mul_zero, it3_zero]
  · rw [mul, if_neg (by simp [ha, hb]), pw_mod, pw_it3, it3_add, ← pw_it3, pw_lg b hb]
theorem mul_xor (a b c : UInt8) : mul a (b ^^^ c) = mul a b ^^^ mul a c := by
  by_cases ha : a = 0
  · subst ha; simp [zero_mul]
  · rw [mul_it _ _ ha, mul_it _ _ ha, mul_it _ _ ha, it3_xor]
theorem xor_mul (a b c : UInt8) : mul (a ^^^ b) c = mul a c ^^^ mul b c := by rw [mul_comm, mul_xor, mul_comm c a, mul_comm c b]
theorem mul_ne {a b : UInt8} (ha : a ≠ 0) (hb : b ≠ 0) : mul a b ≠ 0 := by
  rw [mul, if_neg (by simp [ha, hb])]
  exact pw_ne _ (Nat.mod_lt _ (by decide))
theorem lg_mul {a b : UInt8} (ha : a ≠ 0) (hb : b ≠ 0) : lg (mul a b) = (lg a + lg b) % 255 := by
  rw [mul, if_neg (by simp [ha, hb]), lg_pw _ (Nat.mod_lt _ (by decide))]
theorem mul_assoc (a b c : UInt8) : mul (mul a b) c = mul a (mul b c) := by
  by_cases ha : a = 0
  · subst ha; simp [zero_mul]
  by_cases hb : b = 0
  · subst hb; simp [zero_mul, mul_zero]
  by_cases hc : c = 0
  · subst hc; simp [mul_zero]
  rw [mul, if_neg (by simp [mul_ne ha hb, hc]), lg_mul ha hb, mul, if_neg (by simp [ha, mul_ne hb hc]), lg_mul hb hc]
  congr 1
  omega
theorem lg_one : lg 1 = 0 := by decide +kernel
theorem one_mul (a : UInt8) : mul 1 a = a := by
  by_cases ha : a = 0
  · subst ha; rfl
  · rw [mul, if_neg (by simp [ha]), lg_one, Nat.zero_add, pw_mod, pw_lg a ha]
theorem mul_one (a : UInt8) : mul a 1 = a := by rw [mul_comm, one_mul]
theorem inv_ne {a : UInt8} (ha : a ≠ 0) : inv a ≠ 0 := by
  rw [inv, if_neg ha]; exact pw_ne _ (Nat.mod_lt _ (by decide))
theorem mul_inv {a : UInt8} (ha : a ≠ 0) : mul a (inv a) = 1 := by
  have hl := lg_lt a
  rw [mul, if_neg (by simp [ha, inv_ne ha]), inv, if_neg ha, lg_pw _ (Nat.mod_lt _ (by decide))]
  have : (lg a + (255 - lg a) % 255) % 255 = 0 := by omega
  rw [this]; rfl
end Gf
namespace Wl
def mayP (p : Int × Int × Int) : Bool := decide (p.1 ≥ 1) && (decide (p.1 ≤ 16) && (decide (p.2.1 ≥ 1) && (decide (p.2.1 ≤ 4) && (decide (p.2.2 ≥ 1) && decide (p.2.2 ≤ 24)))))
theorem mayP_iff (p : Int × Int × Int) : mayP p = true ↔ (1 ≤ p.1 ∧ p.1 ≤ 16) ∧ (1 ≤ p.2.1 ∧ p.2.1 ≤ 4) ∧ 1 ≤ p.2.2 ∧ p.2.2 ≤ 24 := by
  simp [mayP, and_assoc]
def colsP (p : Int × Int × Int) : Int := if mayP p then p.1 + p.2.1 else 0
end Wl
namespace Wl
open Go
def nxt (s : Int) : Int := IntKind.wrap .u64 (IntKind.wrap .u64 (s * (6364136223846793005 : Int)) + (1442695040888963407 : Int))
def told (s : Int) : Int := IntKind.wrap .u32 (Int.fdiv (nxt s) (2 ^ min (32 : Int).toNat (IntKind.bits .u64)))
def belowI (s n : Int) : Int := IntKind.wrap .i64 (Int.tmod (IntKind.wrap .u64 (told s)) (IntKind.wrap .u64 n))
theorem wrap_u64 (x : Int) : IntKind.wrap .u64 x = x % 18446744073709551616 := rfl
theorem below_lt (s n : Int) (h1 : 0 < n) (h2 : n ≤ 2 ^ 62) : 0 ≤ belowI s n ∧ belowI s n < n := by
  unfold belowI
  have e1 : IntKind.wrap .u64 n = n := by rw [wrap_u64]; omega
  rw [e1]
  have e0 : 0 ≤ IntKind.wrap .u64 (told s) := by rw [wrap_u64]; omega
  have e2 := Int.tmod_lt_of_pos (IntKind.wrap .u64 (told s)) h1
  have e3 : 0 ≤ Int.tmod (IntKind.wrap .u64 (told s)) n := Int.tmod_nonneg n e0
  rw [Go.Vc.wrap_small _ (by omega) (by omega)]
  exact ⟨e3, e2⟩
def getI (l : List Int) (i : Nat) : Int := l.getD i 0
def swapI (l : List Int) (i j : Nat) : List Int := (l.set i (getI l j)).set j (getI l i)
theorem swap_len (l : List Int) (i j : Nat) : (swapI l i j).length = l.length := by simp [swapI]
def shuf (n : Nat) (s : Int) (l : List Int) : Nat → Int × List Int
  | 0 => (s, l)
  | k + 1 => (nxt (shuf n s l k).1, swapI (shuf n s l k).2 k (k + (belowI (shuf n s l k).1 ((n - k : Nat) : Int)).toNat))
theorem shuf_len (n : Nat) (s : Int) (l : List Int) : ∀ k, (shuf n s l k).2.length = l.length
  | 0 => rfl
  | k + 1 => by rw [shuf, swap_len, shuf_len n s l k]
theorem getI_mem {l : List Int} {i : Nat} (h : i < l.length) : getI l i ∈ l := by
  rw [getI, List.getD_eq_getElem?_getD, List.getElem?_eq_getElem h]; exact List.getElem_mem h
theorem swap_mem {l : List Int} {i j : Nat} (hi : i < l.length) (hj : j < l.length) {x : Int} (hx : x ∈ swapI l i j) : x ∈ l := by
  rcases List.mem_or_eq_of_mem_set hx with h | h
  · rcases List.mem_or_eq_of_mem_set h with h | h
    · exact h
    · rw [h]; exact getI_mem hj
  · rw [h]; exact getI_mem hi
def upto (n : Nat) : List Int := (List.range n).map fun i : Nat => (i : Int)
theorem upto_len (n : Nat) : (upto n).length = n := by simp [upto]
theorem shuf_mem (n : Nat) (s : Int) : ∀ k, k ≤ n → ∀ x ∈ (shuf n s (upto n) k).2, 0 ≤ x ∧ x < n
  | 0, _, x, hx => by
    simp only [shuf, upto, List.mem_map, List.mem_range] at hx
    obtain ⟨i, hi, rfl⟩ := hx
    omega
  | k + 1, hk, x, hx => by
    have hb : k < n → n - k ≤ 2 ^ 62 → k + (belowI (shuf n s (upto n) k).1 ((n - k : Nat) : Int)).toNat < n := fun h1 h2 => by
      have := below_lt (shuf n s (upto n) k).1 ((n - k : Nat) : Int) (by omega) (by omega)
      omega
    have hl := shuf_len n s (upto n) k
    rw [upto_len] at hl
    by_cases hbig : n - k ≤ 2 ^ 62
    · refine shuf_mem n s k (by omega) x (swap_mem (by omega) ?_ hx)
      have := hb (by omega) hbig
      omega
    · -- beyond any size: what is set is 0 or a member
      have key : ∀ y ∈ swapI (shuf n s (upto n) k).2 k (k + (belowI (shuf n s (upto n) k).1 ((n - k : Nat) : Int)).toNat), y ∈ (shuf n s (upto n) k).2 ∨ y = 0 := by
        intro y hy
        have g : ∀ i, getI (shuf n s (upto n) k).2 i ∈ (shuf n s (upto n) k).2 ∨ getI (shuf n s (upto n) k).2 i = 0 := fun i => by
          by_cases h : i < (shuf n s (upto n) k).2.length
          · exact .inl (getI_mem h)
          · right; simp only [getI, List.getD_eq_getElem?_getD]; rw [List.getElem?_eq_none (by omega)]; rfl
        rcases List.mem_or_eq_of_mem_set hy with h | h
        · rcases List.mem_or_eq_of_mem_set h with h | h
          · exact .inl h
          · rw [h]; exact g _
        · rw [h]; exact g _
      rcases key x hx with h | h
      · exact shuf_mem n s k (by omega) x h
      · subst h; omega
def sortI (l : List Int) : List Int := l.mergeSort fun x y => decide (x ≤ y)
theorem sortI_len (l : List Int) : (sortI l).length = l.length := List.length_mergeSort l
theorem sortI_mem (l : List Int) (x : Int) : x ∈ sortI l ↔ x ∈ l := List.mem_mergeSort
def someI (s : Int) (n k : Nat) : List Int := sortI ((shuf n s (upto n) k).2.take k)
theorem some_mem {s : Int} {n k : Nat} (hk : k ≤ n) {x : Int} (hx : x ∈ someI s n k) : 0 ≤ x ∧ x < n :=
  shuf_mem n s k hk x (List.mem_of_mem_take ((sortI_mem _ _).1 hx))
theorem some_len (s : Int) (n k : Nat) (hk : k ≤ n) : (someI s n k).length = k := by
  rw [someI, sortI_len, List.length_take, shuf_len, upto_len]; omega
def rootI (l : Nat) : Nat := if l ≤ 1 then l else if l ≤ 4 then 2 else if l ≤ 9 then 3 else if l ≤ 16 then 4 else 5
def bitsI (r : Nat) : Nat := if r = 0 then 0 else if r = 1 then 1 else if r ≤ 3 then 2 else 3
def weightI (l k : Nat) : Nat :=
  (if k > 1 then 1048576 / (k * (k - 1)) else 1048576 / l) +
    (if k < l / rootI l then 1048576 * rootI l / (l * k) else if k = l / rootI l then 1048576 * rootI l * bitsI (rootI l) / l else 0)
def sumI (l : Nat) : Nat → Nat
  | 0 => 0
  | k + 1 => sumI l k + weightI l (k + 1)
def tableI (l : Nat) : List Int := (List.range l).map fun k => ((sumI l (k + 1) : Nat) : Int)
theorem tableI_len (l : Nat) : (tableI l).length = l := by simp [tableI]
def degI (t : List Int) (x : Int) : Nat := (t.findIdx fun y => decide (y > x)) + 1
theorem weightI_le : ∀ l, l ≤ 20 → ∀ k, k ≤ 20 → weightI l k ≤ 2 ^ 30 := by decide +kernel
theorem sumI_le (l : Nat) (hl : l ≤ 20) : ∀ k, k ≤ 20 → sumI l k ≤ k * 2 ^ 30
  | 0, _ => by simp [sumI]
  | k + 1, hk => by
    have := sumI_le l hl k (by omega)
    have := weightI_le l hl (k + 1) hk
    rw [sumI]; omega
theorem sumI_pos : ∀ l, l ≤ 20 → 1 ≤ l → 0 < sumI l l := by decide +kernel
theorem table_last (l : Nat) (h : 1 ≤ l) : (tableI l).getLast? = some ((sumI l l : Nat) : Int) := by
  obtain ⟨k, rfl⟩ : ∃ k, l = k + 1 := ⟨l - 1, by omega⟩
  simp [tableI, List.range_succ]
def startI (seed id : Int) : Int := IntKind.wrap .u64 (IntKind.wrap .u32 ((BitVec.ofInt (IntKind.bits .u32) seed ^^^ (BitVec.ofInt (IntKind.bits .u32) (IntKind.wrap .u32 ((IntKind.wrap .u32 id) * (2654435761 : Int))))).toNat : Nat))
def degOf (s : Int) (n : Nat) : Nat := degI (tableI n) (belowI s (sumI n n))
theorem degOf_le (s : Int) (n : Nat) (h1 : 1 ≤ n) (h2 : n ≤ 20) : degOf s n ≤ n := by
  unfold degOf degI
  have hs := sumI_pos n h2 h1
  have hs2 := sumI_le n h2 n h2
  have hb := below_lt s (sumI n n) (by omega) (by omega)
  have := List.findIdx_lt_length_of_exists (p := fun y => decide (y > belowI s (sumI n n))) (xs := tableI n) ⟨_, List.mem_of_getLast? (table_last n h1), by simpa using hb.2⟩
  rw [tableI_len] at this
  omega
def mayID (id : Int) : Bool := decide (0 ≤ id) && decide (id ≤ 65535)
def colsI (n : Nat) (seed id : Int) : List Int := someI (nxt (nxt (startI seed id))) n (degOf (nxt (startI seed id)) n)
theorem colsI_mem {n : Nat} (h1 : 1 ≤ n) (h2 : n ≤ 20) {seed id x : Int} (hx : x ∈ colsI n seed id) : 0 ≤ x ∧ x < n := some_mem (degOf_le _ n h1 h2) hx
theorem colsI_len {n : Nat} (h1 : 1 ≤ n) (h2 : n ≤ 20) (seed id : Int) : (colsI n seed id).length ≤ n := by
  rw [colsI, some_len _ _ _ (degOf_le _ n h1 h2)]; exact degOf_le _ n h1 h2
def onesI (n : Nat) (l : List Int) : List UInt8 := l.foldl (fun r i => r.set i.toNat 1) (List.replicate n 0)
theorem ones_len (n : Nat) (l : List Int) : (onesI n l).length = n := by
  have : ∀ (l : List Int) (r : List UInt8), (l.foldl (fun r i => r.set i.toNat 1) r).length = r.length := by
    intro l
    induction l with
    | nil => intro r; rfl
    | cons a t ih => intro r; rw [List.foldl_cons, ih]; simp
  rw [onesI, this]; simp
def rowI (n : Nat) (seed id : Int) : List UInt8 := onesI n (colsI n seed id)
theorem rowI_len (n : Nat) (seed id : Int) : (rowI n seed id).length = n := ones_len _ _
def aheadRow (K H h : Nat) : List UInt8 := (List.range K).map (fun j => Gf.pw ((h + 1) * (j + 1) % 255)) ++ (List.range H).map fun i => if i = h then 1 else 0
end Wl
namespace Wl
def aheadRows (K H : Nat) : List (List UInt8) := (List.range H).map (aheadRow K H)
theorem aheadRow_len (K H h : Nat) : (aheadRow K H h).length = K + H := by simp [aheadRow]
def matI (p : Int × Int × Int) (seed : Int) (ids : List Int) : List (List UInt8) :=
  if mayP p then aheadRows p.1.toNat p.2.1.toNat ++ (ids.filter mayID).map (rowI (colsP p).toNat seed) else []
theorem filter_take_snoc {α : Type} {f : α → Bool} {l : List α} {k : Nat} (hk : k < l.length) : (l.take (k + 1)).filter f = if f l[k] then (l.take k).filter f ++ [l[k]] else (l.take k).filter f := by
  rw [List.take_succ_eq_append_getElem hk, List.filter_append]
  by_cases h : f l[k] = true <;> simp [h]
end Wl
namespace Wl
abbrev Row := List UInt8
abbrev Mat := List Row
def scaleB (c : UInt8) (l : Row) : Row := l.map (Gf.mul c)
def addB (c : UInt8) (a to : Row) : Row := List.zipWith (fun x y => y ^^^ Gf.mul c x) a to
def colB (r : Row) (col : Nat) : UInt8 := r.getD col 0
def rowB (m : Mat) (i : Nat) : Row := m.getD i []
def beginsB (m : Mat) (top col : Nat) : Option Nat := (List.range m.length).find? fun i => decide (top ≤ i) && (colB (rowB m i) col != 0)
def swapB (m : Mat) (i j : Nat) : Mat := (m.set i (rowB m j)).set j (rowB m i)
def elimB (top col : Nat) (m : Mat) (k : Nat) : Mat := m.mapIdx fun i r => if i < k ∧ i ≠ top then addB (colB r col) (rowB m top) r else r
def normB (top col : Nat) (m : Mat) : Mat := m.set top (scaleB (Gf.inv (colB (rowB m top) col)) (rowB m top))
def stepB (s : Nat × Mat) (col : Nat) : Nat × Mat :=
  match beginsB s.2 s.1 col with
  | none => s
  | some i => (s.1 + 1, elimB s.1 col (normB s.1 col (swapB s.2 s.1 i)) s.2.length)
def reduceB (m : Mat) : Nat → Nat × Mat
  | 0 => (0, m)
  | c + 1 => stepB (reduceB m c) c
def widthB (m : Mat) : Nat := (rowB m 0).length
def rankB (m : Mat) : Nat := (reduceB m (widthB m)).1
def evenB (n : Nat) (m : Mat) : Prop := ∀ r ∈ m, r.length = n
theorem scale_len (c : UInt8) (l : Row) : (scaleB c l).length = l.length := by simp [scaleB]
theorem add_len {c : UInt8} {a t : Row} (h : a.length = t.length) : (addB c a t).length = t.length := by simp [addB, h]
theorem row_lt {m : Mat} {i : Nat} (h : i < m.length) : rowB m i = m[i] := by rw [rowB, List.getD_eq_getElem?_getD, List.getElem?_eq_getElem h]; rfl
theorem even_row {n : Nat} {m : Mat} (h : evenB n m) {i : Nat} (hi : i < m.length) : (rowB m i).length = n := by rw [row_lt hi]; exact h _ (List.getElem_mem hi)
theorem even_set {n : Nat} {m : Mat} (h : evenB n m) {i : Nat} {r : Row} (hr : r.length = n) : evenB n (m.set i r) := fun x hx => by
  rcases List.mem_or_eq_of_mem_set hx with h1 | h1
  · exact h x h1
  · rw [h1]; exact hr
theorem find_none' {P : Nat → Bool} {n : Nat} (h : ∀ j, j < n → P j = false) : (List.range n).find? P = none := by
  rw [List.find?_eq_none]
  intro x hx
  rw [List.mem_range] at hx
  simp [h x hx]
theorem find_some' {P : Nat → Bool} {n k : Nat} (hk : k < n) (h : ∀ j, j < k → P j = false) (hp : P k = true) : (List.range n).find? P = some k := by
  rw [List.find?_eq_some_iff_append]
  refine ⟨hp, List.range k, List.range' (k + 1) (n - k - 1), ?_, fun a ha => ?_⟩
  · rw [List.range_eq_range', List.range_eq_range']
    have e1 : n = k + (n - k) := by omega
    have e2 : n - k = (n - k - 1) + 1 := by omega
    conv => lhs; rw [e1, ← List.range'_append_1 (s := 0) (m := k) (n := n - k)]
    rw [Nat.zero_add]
    conv => lhs; rw [e2, List.range'_succ]
  · rw [List.mem_range] at ha
    simp [h a ha]
theorem begins_some {m : Mat} {top col i : Nat} (h : beginsB m top col = some i) : top ≤ i ∧ i < m.length ∧ colB (rowB m i) col ≠ 0 := by
  have h1 := List.find?_some h
  have h2 := List.mem_of_find?_eq_some h
  simp at h1 h2
  exact ⟨h1.1, h2, h1.2⟩
theorem begins_none {m : Mat} {top col : Nat} (h : beginsB m top col = none) : ∀ i, top ≤ i → i < m.length → colB (rowB m i) col = 0 := fun i h1 h2 => by
  have := List.find?_eq_none.1 h i (List.mem_range.2 h2)
  simpa [h1] using this
theorem swap_len' (m : Mat) (i j : Nat) : (swapB m i j).length = m.length := by simp [swapB]
theorem swap_even {n : Nat} {m : Mat} (h : evenB n m) {i j : Nat} (hi : i < m.length) (hj : j < m.length) : evenB n (swapB m i j) := even_set (even_set h (even_row h hj)) (even_row h hi)
theorem norm_len (t c : Nat) (m : Mat) : (normB t c m).length = m.length := by simp [normB]
theorem norm_even {n : Nat} {m : Mat} (h : evenB n m) {t c : Nat} (ht : t < m.length) : evenB n (normB t c m) := even_set h (by rw [scale_len]; exact even_row h ht)
theorem elim_len (t c : Nat) (m : Mat) (k : Nat) : (elimB t c m k).length = m.length := by simp [elimB]
theorem elim_even {n : Nat} {m : Mat} (h : evenB n m) {t c k : Nat} (ht : t < m.length) : evenB n (elimB t c m k) := fun x hx => by
  obtain ⟨i, hi, rfl⟩ := List.mem_mapIdx.1 hx
  have hl := h _ (List.getElem_mem hi)
  split
  · rw [add_len (by rw [even_row h ht, hl])]; exact hl
  · exact hl
theorem elim_zero (t c : Nat) (m : Mat) : elimB t c m 0 = m := by
  apply List.ext_getElem?
  intro i
  simp [elimB, List.getElem?_mapIdx]
theorem elim_row {t c k : Nat} {m : Mat} {i : Nat} (hi : i < m.length) : rowB (elimB t c m k) i = if i < k ∧ i ≠ t then addB (colB (rowB m i) c) (rowB m t) (rowB m i) else rowB m i := by
  rw [row_lt (by rw [elim_len]; exact hi), row_lt hi]; simp [elimB]
theorem elim_succ {t c k : Nat} {m : Mat} (hk : k < m.length) (hkt : k ≠ t) : elimB t c m (k + 1) = (elimB t c m k).set k (addB (colB (rowB m k) c) (rowB m t) (rowB m k)) := by
  apply List.ext_getElem?
  intro i
  simp only [elimB, List.getElem?_set, List.getElem?_mapIdx, List.length_mapIdx]
  by_cases hik : k = i
  · subst hik
    simp only [if_true, hk, List.getElem?_eq_getElem hk, Option.map_some]
    rw [if_pos ⟨by omega, hkt⟩, row_lt hk]
  · rw [if_neg hik]
    congr 1
    funext r
    by_cases h : i < k ∧ i ≠ t
    · rw [if_pos h, if_pos ⟨by omega, h.2⟩]
    · rw [if_neg h, if_neg (fun hh => h ⟨by omega, hh.2⟩)]
theorem elim_skip {t c : Nat} {m : Mat} : elimB t c m (t + 1) = elimB t c m t := by
  apply List.ext_getElem?
  intro i
  simp only [elimB, List.getElem?_mapIdx]
  congr 1
  funext r
  by_cases h : i < t ∧ i ≠ t
  · rw [if_pos h, if_pos ⟨by omega, h.2⟩]
  · rw [if_neg h, if_neg (fun hh => h ⟨by omega, hh.2⟩)]
theorem step_even {n : Nat} {s : Nat × Mat} (h : evenB n s.2) (col : Nat) : evenB n (stepB s col).2 ∧ (stepB s col).2.length = s.2.length := by
  unfold stepB
  cases hb : beginsB s.2 s.1 col with
  | none => exact ⟨h, rfl⟩
  | some i =>
    have hh := begins_some hb
    dsimp only
    refine ⟨elim_even (norm_even (swap_even h (by omega) hh.2.1) (by rw [swap_len']; omega)) (by rw [norm_len, swap_len']; omega), by rw [elim_len, norm_len, swap_len']⟩
theorem reduce_even {n : Nat} {m : Mat} (h : evenB n m) : ∀ c, evenB n (reduceB m c).2 ∧ (reduceB m c).2.length = m.length
  | 0 => ⟨h, rfl⟩
  | c + 1 => by
    have := reduce_even h c
    have h2 := step_even this.1 c
    rw [reduceB]
    exact ⟨h2.1, by rw [h2.2, this.2]⟩
theorem step_top {s : Nat × Mat} (h : s.1 ≤ s.2.length) (col : Nat) : (stepB s col).1 ≤ (stepB s col).2.length := by
  unfold stepB
  cases hb : beginsB s.2 s.1 col with
  | none => exact h
  | some i =>
    have hh := begins_some hb
    dsimp only
    rw [elim_len, norm_len, swap_len']; omega
theorem reduce_top (m : Mat) : ∀ c, (reduceB m c).1 ≤ (reduceB m c).2.length
  | 0 => by simp [reduceB]
  | c + 1 => step_top (reduce_top m c) c
end Wl
namespace Wl
open Classical
theorem xor_self' (a : UInt8) : a ^^^ a = 0 := UInt8.xor_self
theorem xor_can (a b : UInt8) : (a ^^^ b) ^^^ b = a := by rw [UInt8.xor_assoc, xor_self', UInt8.xor_zero]
theorem col_add {c : UInt8} {a t : Row} (h : a.length = t.length) (j : Nat) : colB (addB c a t) j = colB t j ^^^ Gf.mul c (colB a j) := by
  simp only [colB, addB, List.getD_eq_getElem?_getD, List.getElem?_zipWith]
  by_cases hj : j < a.length
  · rw [List.getElem?_eq_getElem hj, List.getElem?_eq_getElem (by omega)]; rfl
  · rw [List.getElem?_eq_none (by omega), List.getElem?_eq_none (by omega)]; simp [Gf.mul_zero]
theorem col_scale (c : UInt8) (a : Row) (j : Nat) : colB (scaleB c a) j = Gf.mul c (colB a j) := by
  simp only [colB, scaleB, List.getD_eq_getElem?_getD, List.getElem?_map]
  cases a[j]? with
  | none => simp [Gf.mul_zero]
  | some x => rfl
def zeroB (n : Nat) : Row := List.replicate n 0
theorem col_zero (n j : Nat) : colB (zeroB n) j = 0 := by
  simp only [colB, zeroB, List.getD_eq_getElem?_getD, List.getElem?_replicate]; split <;> rfl
theorem row_ext {n : Nat} {a b : Row} (ha : a.length = n) (hb : b.length = n) (h : ∀ j, j < n → colB a j = colB b j) : a = b := by
  apply List.ext_getElem (by omega)
  intro j h1 h2
  have := h j (by omega)
  simpa [colB, List.getD_eq_getElem?_getD, List.getElem?_eq_getElem h1, List.getElem?_eq_getElem h2] using this
inductive Span (n : Nat) (m : Mat) : Row → Prop
  | zero : Span n m (zeroB n)
  | add (c : UInt8) (r v : Row) : r ∈ m → Span n m v → Span n m (addB c r v)
section
variable {n : Nat} {m m' : Mat}
theorem Span.len (hm : evenB n m) {v : Row} (h : Span n m v) : v.length = n := by
  induction h with
  | zero => simp [zeroB]
  | add c r v hr _ ih => rw [add_len (by rw [hm r hr, ih])]; exact ih
theorem Span.comb (hm : evenB n m) {u v : Row} (hu : Span n m u) (hv : Span n m v) (c : UInt8) : Span n m (addB c u v) := by
  induction hu with
  | zero =>
    have : addB c (zeroB n) v = v := row_ext (n := n) (by rw [add_len (by simp [zeroB, hv.len hm])]; exact hv.len hm) (hv.len hm) fun j _ => by
      rw [col_add (by simp [zeroB, hv.len hm]), col_zero, Gf.mul_zero, UInt8.xor_zero]
    rw [this]; exact hv
  | add d r w hr hw ih =>
    have l1 := hv.len hm; have l2 := hw.len hm; have l3 := hm r hr
    have : addB c (addB d r w) v = addB (Gf.mul c d) r (addB c w v) := row_ext (n := n) (by rw [add_len (by rw [add_len (by omega)]; omega)]; exact l1) (by rw [add_len (by rw [add_len (by omega)]; omega), add_len (by omega)]; exact l1) fun j _ => by
      rw [col_add (by rw [add_len (by omega)]; omega), col_add (by omega), col_add (by rw [add_len (by omega)]; omega), col_add (by omega), Gf.mul_xor, Gf.mul_assoc]
      ac_rfl
    rw [this]; exact .add _ _ _ hr ih
theorem Span.row (hm : evenB n m) {r : Row} (hr : r ∈ m) : Span n m r := by
  have := Span.add 1 r _ hr (.zero (n := n) (m := m))
  have e : addB 1 r (zeroB n) = r := row_ext (n := n) (by rw [add_len (by simp [zeroB, hm r hr])]; simp [zeroB]) (hm r hr) fun j _ => by
    rw [col_add (by simp [zeroB, hm r hr]), col_zero, Gf.one_mul, UInt8.zero_xor]
  rwa [e] at this
theorem Span.sub (hm : evenB n m) (h : ∀ r ∈ m', Span n m r) {v : Row} (hv : Span n m' v) : Span n m v := by
  induction hv with
  | zero => exact .zero
  | add c r v hr _ ih => exact (h r hr).comb hm ih c
theorem Span.mono (h : ∀ r ∈ m', r ∈ m) {v : Row} (hv : Span n m' v) : Span n m v := by
  induction hv with
  | zero => exact .zero
  | add c r v hr _ ih => exact .add c r v (h r hr) ih
theorem Span.lin (hm : evenB n m) (φ : Row → UInt8) (h0 : φ (zeroB n) = 0) (ha : ∀ c a t, a.length = n → t.length = n → φ (addB c a t) = φ t ^^^ Gf.mul c (φ a)) (hr : ∀ r ∈ m, φ r = 0) {v : Row} (hv : Span n m v) : φ v = 0 := by
  induction hv with
  | zero => exact h0
  | add c r v hr' hv ih => rw [ha c r v (hm r hr') (hv.len hm), ih, hr r hr', Gf.mul_zero, UInt8.xor_zero]
end
def Lead (S : Row → Prop) (j : Nat) : Prop := ∃ v, S v ∧ (∀ i, i < j → colB v i = 0) ∧ colB v j ≠ 0
noncomputable def leads (S : Row → Prop) (n : Nat) : Nat := (List.range n).countP fun j => decide (Lead S j)
structure Way (n : Nat) (m : Mat) (c top : Nat) (rows : Mat) : Prop where
  even : evenB n rows
  len : rows.length = m.length
  tle : top ≤ rows.length
  span : ∀ v, Span n rows v ↔ Span n m v
  cnt : top = leads (Span n m) c
  piv : ∃ p : Nat → Nat, (∀ i, i < top → p i < c) ∧ (∀ i, i < top → ∀ k, k < rows.length → colB (rowB rows k) (p i) = if k = i then 1 else 0) ∧ (∀ i, i < top → ∀ j, j < p i → colB (rowB rows i) j = 0) ∧ (∀ i j, i < j → j < top → p i < p j)
  low : ∀ k, top ≤ k → k < rows.length → ∀ j, j < c → colB (rowB rows k) j = 0
theorem mem_row {m : Mat} {i : Nat} (h : i < m.length) : rowB m i ∈ m := by rw [row_lt h]; exact List.getElem_mem h
theorem row_of_mem {m : Mat} {r : Row} (h : r ∈ m) : ∃ i, i < m.length ∧ r = rowB m i := by
  obtain ⟨i, hi, rfl⟩ := List.getElem_of_mem h
  exact ⟨i, hi, (row_lt hi).symm⟩
theorem row_set {m : Mat} {i j : Nat} {r : Row} (hi : i < m.length) : rowB (m.set i r) j = if i = j then r else rowB m j := by
  simp only [rowB, List.getD_eq_getElem?_getD, List.getElem?_set]
  by_cases h : i = j
  · subst h; simp [hi]
  · simp [h]
theorem row_swap {m : Mat} {i j k : Nat} (hi : i < m.length) (hj : j < m.length) : rowB (swapB m i j) k = if k = j then rowB m i else if k = i then rowB m j else rowB m k := by
  rw [swapB, row_set (by simpa using hj), row_set hi]
  by_cases h1 : j = k
  · rw [if_pos h1, if_pos h1.symm]
  · rw [if_neg h1, if_neg (show ¬ k = j from fun h => h1 h.symm)]
    by_cases h2 : i = k
    · rw [if_pos h2, if_pos h2.symm]
    · rw [if_neg h2, if_neg (show ¬ k = i from fun h => h2 h.symm)]
theorem row_norm {m : Mat} {t c k : Nat} (ht : t < m.length) : rowB (normB t c m) k = if t = k then scaleB (Gf.inv (colB (rowB m t) c)) (rowB m t) else rowB m k := by
  rw [normB, row_set ht]
section
variable {n : Nat} {m : Mat}
theorem span_swap (hm : evenB n m) {i j : Nat} (hi : i < m.length) (hj : j < m.length) (v : Row) : Span n (swapB m i j) v ↔ Span n m v := by
  refine ⟨Span.mono fun r hr => ?_, Span.mono fun r hr => ?_⟩
  · obtain ⟨k, hk, rfl⟩ := row_of_mem hr
    rw [swap_len'] at hk
    rw [row_swap hi hj]
    split
    · exact mem_row hi
    · split
      · exact mem_row hj
      · exact mem_row hk
  · obtain ⟨k, hk, rfl⟩ := row_of_mem hr
    have e : ∀ x, x < m.length → rowB (swapB m i j) x ∈ swapB m i j := fun x hx => mem_row (by rw [swap_len']; exact hx)
    by_cases h1 : k = i
    · subst h1; have := e j hj; rw [row_swap hi hj, if_pos rfl] at this; exact this
    · by_cases h2 : k = j
      · subst h2; have := e i hi; rw [row_swap hi hj] at this
        by_cases h3 : i = k
        · exact absurd h3.symm h1
        · rw [if_neg h3, if_pos rfl] at this; exact this
      · have := e k hk; rw [row_swap hi hj, if_neg h2, if_neg h1] at this; exact this
theorem span_norm (hm : evenB n m) {t c : Nat} (ht : t < m.length) (hne : colB (rowB m t) c ≠ 0) (v : Row) : Span n (normB t c m) v ↔ Span n m v := by
  have hev := norm_even hm (c := c) ht
  have hl := even_row hm ht
  have sc : ∀ (x : UInt8) (r : Row), r.length = n → scaleB x r = addB x r (zeroB n) := fun x r hr => row_ext (n := n) (by rw [scale_len, hr]) (by rw [add_len (by simp [zeroB, hr])]; simp [zeroB]) fun j _ => by
    rw [col_scale, col_add (by simp [zeroB, hr]), col_zero, UInt8.zero_xor]
  refine ⟨Span.sub hm fun r hr => ?_, Span.sub hev fun r hr => ?_⟩
  · obtain ⟨k, hk, rfl⟩ := row_of_mem hr
    rw [norm_len] at hk
    rw [row_norm ht]
    split
    · rw [sc _ _ hl]; exact .add _ _ _ (mem_row ht) .zero
    · exact Span.row hm (mem_row hk)
  · obtain ⟨k, hk, rfl⟩ := row_of_mem hr
    have e : ∀ x, x < m.length → Span n (normB t c m) (rowB (normB t c m) x) := fun x hx => Span.row hev (mem_row (by rw [norm_len]; exact hx))
    by_cases h1 : t = k
    · subst h1
      have := e t ht
      rw [row_norm ht, if_pos rfl] at this
      have h2 := this.comb hev .zero (colB (rowB m t) c)
      have e3 : addB (colB (rowB m t) c) (scaleB (Gf.inv (colB (rowB m t) c)) (rowB m t)) (zeroB n) = rowB m t := row_ext (n := n) (by rw [add_len (by simp [zeroB, scale_len, hl])]; simp [zeroB]) hl fun j _ => by
        rw [col_add (by simp [zeroB, scale_len, hl]), col_zero, UInt8.zero_xor, col_scale, ← Gf.mul_assoc, Gf.mul_inv hne, Gf.one_mul]
      rw [e3] at h2; exact h2
    · have := e k hk; rw [row_norm ht, if_neg h1] at this; exact this
theorem span_elim (hm : evenB n m) {t c : Nat} (ht : t < m.length) (v : Row) : Span n (elimB t c m m.length) v ↔ Span n m v := by
  have hev := elim_even hm (c := c) (k := m.length) ht
  have hl := even_row hm ht
  refine ⟨Span.sub hm fun r hr => ?_, Span.sub hev fun r hr => ?_⟩
  · obtain ⟨k, hk, rfl⟩ := row_of_mem hr
    rw [elim_len] at hk
    rw [elim_row hk]
    split
    · exact .add _ _ _ (mem_row ht) (Span.row hm (mem_row hk))
    · exact Span.row hm (mem_row hk)
  · obtain ⟨k, hk, rfl⟩ := row_of_mem hr
    have e : ∀ x, x < m.length → Span n (elimB t c m m.length) (rowB (elimB t c m m.length) x) := fun x hx => Span.row hev (mem_row (by rw [elim_len]; exact hx))
    have et := e t ht
    rw [elim_row ht, if_neg (by simp)] at et
    by_cases h1 : k = t
    · subst h1; exact et
    · have h2 := e k hk
      rw [elim_row hk, if_pos ⟨hk, h1⟩] at h2
      have h3 := et.comb hev h2 (colB (rowB m k) c)
      have hk' := even_row hm hk
      have e3 : addB (colB (rowB m k) c) (rowB m t) (addB (colB (rowB m k) c) (rowB m t) (rowB m k)) = rowB m k := row_ext (n := n) (by rw [add_len (by rw [add_len (by omega)]; omega), add_len (by omega)]; exact hk') hk' fun j _ => by
        rw [col_add (by rw [add_len (by omega)]; omega), col_add (by omega), xor_can]
      rw [e3] at h3; exact h3
def dotN (f g : Nat → UInt8) : Nat → UInt8
  | 0 => 0
  | k + 1 => dotN f g k ^^^ Gf.mul (f k) (g k)
theorem dot_zero (f g : Nat → UInt8) : ∀ k, (∀ i, i < k → f i = 0) → dotN f g k = 0
  | 0, _ => rfl
  | k + 1, h => by rw [dotN, dot_zero f g k fun i hi => h i (by omega), h k (by omega), Gf.zero_mul]; rfl
theorem dot_one (f g : Nat → UInt8) (x : Nat) : ∀ k, x < k → (∀ i, i < k → f i = if x = i then 1 else 0) → dotN f g k = g x
  | 0, hx, _ => by omega
  | k + 1, hx, h => by
    rw [dotN]
    by_cases hk : x = k
    · subst hk
      rw [dot_zero f g x fun i hi => by rw [h i (by omega), if_neg (by omega)], h x (by omega), if_pos rfl, Gf.one_mul, UInt8.zero_xor]
    · rw [dot_one f g x k (by omega) fun i hi => h i (by omega), h k (by omega), if_neg hk, Gf.zero_mul, UInt8.xor_zero]
theorem dot_lin (f1 f2 g : Nat → UInt8) (c : UInt8) : ∀ k, dotN (fun i => f1 i ^^^ Gf.mul c (f2 i)) g k = dotN f1 g k ^^^ Gf.mul c (dotN f2 g k)
  | 0 => by simp [dotN, Gf.mul_zero]
  | k + 1 => by
    rw [dotN, dotN, dotN, dot_lin f1 f2 g c k, Gf.mul_xor, Gf.xor_mul, Gf.mul_assoc]
    ac_rfl
theorem leads_succ (S : Row → Prop) (c : Nat) : leads S (c + 1) = leads S c + if Lead S c then 1 else 0 := by
  simp only [leads, List.range_succ, List.countP_append, List.countP_cons, List.countP_nil]
  by_cases h : Lead S c <;> simp [h]
theorem way_start (hm : evenB n m) : Way n m 0 0 m := ⟨hm, rfl, by omega, fun _ => Iff.rfl, by simp [leads], ⟨fun _ => 0, fun i hi => by omega, fun i hi => by omega, fun i hi => by omega, fun i j _ hj => by omega⟩, fun k _ _ j hj => by omega⟩
theorem way_step (hm : evenB n m) {c top : Nat} {rows : Mat} (w : Way n m c top rows) (hc : c < n) : Way n m (c + 1) (stepB (top, rows) c).1 (stepB (top, rows) c).2 := by
  obtain ⟨hev, hlen, htl, hsp, hcnt, ⟨p, p1, p2, p3, p4⟩, hlow⟩ := w
  have hS : ∀ v, Span n rows v ↔ Span n m v := hsp
  have hSeq : Span n rows = Span n m := funext fun v => propext (hS v)
  unfold stepB
  dsimp only
  cases hb : beginsB rows top c with
  | none =>
    have hno := begins_none hb
    dsimp only
    have hnl : ¬ Lead (Span n m) c := by
      rw [← hSeq]
      rintro ⟨v, hv, hz, hne⟩
      apply hne
      have hφ := Span.lin hev (fun v => colB v c ^^^ dotN (fun i => colB v (p i)) (fun i => colB (rowB rows i) c) top) (by
          simp only [col_zero]; rw [dot_zero _ _ _ fun i _ => rfl]; rfl) (fun x a t ha ht => by
          simp only [col_add (show a.length = t.length by omega)]
          rw [dot_lin, Gf.mul_xor]; ac_rfl) (fun r hr => by
          obtain ⟨k, hk, rfl⟩ := row_of_mem hr
          by_cases hkt : k < top
          · rw [dot_one _ _ k top hkt fun i hi => by rw [p2 i hi k hk]]; exact xor_self' _
          · rw [hno k (by omega) hk, dot_zero _ _ _ fun i hi => by rw [p2 i hi k hk, if_neg (by omega)]]; rfl) hv
      rw [dot_zero _ _ _ fun i hi => hz _ (p1 i hi), UInt8.xor_zero] at hφ
      exact hφ
    refine ⟨hev, hlen, htl, hsp, by rw [leads_succ, if_neg hnl, hcnt]; rfl, ⟨p, fun i hi => by have := p1 i hi; omega, p2, p3, p4⟩, fun k hk1 hk2 j hj => ?_⟩
    rcases Nat.lt_succ_iff_lt_or_eq.1 hj with h | rfl
    · exact hlow k hk1 hk2 j h
    · exact hno k hk1 hk2
  | some at_ =>
    have hh := begins_some hb
    obtain ⟨h1, h2, h3⟩ := hh
    dsimp only
    have htt : top < rows.length := by omega
    obtain ⟨r1, hr1⟩ : ∃ r1, r1 = swapB rows top at_ := ⟨_, rfl⟩
    have l1 : r1.length = rows.length := by rw [hr1, swap_len']
    have ev1 : evenB n r1 := by rw [hr1]; exact swap_even hev htt h2
    have q1 : ∀ k, rowB r1 k = if k = at_ then rowB rows top else if k = top then rowB rows at_ else rowB rows k := fun k => by rw [hr1, row_swap htt h2]
    have q1t : rowB r1 top = rowB rows at_ := by
      rw [q1]
      by_cases h : top = at_
      · rw [if_pos h, h]
      · rw [if_neg h, if_pos rfl]
    have hne1 : colB (rowB r1 top) c ≠ 0 := by rw [q1t]; exact h3
    obtain ⟨r2, hr2⟩ : ∃ r2, r2 = normB top c r1 := ⟨_, rfl⟩
    have l2 : r2.length = rows.length := by rw [hr2, norm_len, l1]
    have ev2 : evenB n r2 := by rw [hr2]; exact norm_even ev1 (by omega)
    have q2 : ∀ k, rowB r2 k = if top = k then scaleB (Gf.inv (colB (rowB r1 top) c)) (rowB r1 top) else rowB r1 k := fun k => by rw [hr2, row_norm (by omega)]
    have hz2 : ∀ j, colB (rowB r1 top) j = 0 → colB (rowB r2 top) j = 0 := fun j hj => by rw [q2, if_pos rfl, col_scale, hj, Gf.mul_zero]
    have hone : colB (rowB r2 top) c = 1 := by rw [q2, if_pos rfl, col_scale, Gf.mul_comm, Gf.mul_inv hne1]
    obtain ⟨r3, hr3⟩ : ∃ r3, r3 = elimB top c r2 rows.length := ⟨_, rfl⟩
    have l3 : r3.length = rows.length := by rw [hr3, elim_len, l2]
    have q3 : ∀ k, k < rows.length → ∀ j, colB (rowB r3 k) j = if k = top then colB (rowB r2 top) j else colB (rowB r1 k) j ^^^ Gf.mul (colB (rowB r1 k) c) (colB (rowB r2 top) j) := fun k hk j => by
      rw [hr3, elim_row (by omega)]
      by_cases h : k = top
      · rw [if_neg (by omega), if_pos h, h]
      · have e := q2 k
        rw [if_neg (fun hh => h hh.symm)] at e
        rw [if_pos ⟨hk, h⟩, if_neg h, col_add (by rw [even_row ev2 (by omega), even_row ev2 (by omega)]), e]
    have low1 : ∀ j, j < c → colB (rowB r2 top) j = 0 := fun j hj => hz2 j (by rw [q1t]; exact hlow at_ h1 h2 j hj)
    have keep : ∀ k, k < rows.length → ∀ j, j < c → colB (rowB r3 k) j = if k = top then 0 else colB (rowB r1 k) j := fun k hk j hj => by
      rw [q3 k hk, low1 j hj, Gf.mul_zero, UInt8.xor_zero]
    have old1 : ∀ k, k < top → rowB r1 k = rowB rows k := fun k hk => by rw [q1, if_neg (by omega), if_neg (by omega)]
    have zer1 : ∀ k, top ≤ k → k < rows.length → ∀ j, j < c → colB (rowB r1 k) j = 0 := fun k hk1 hk2 j hj => by
      rw [q1]
      split
      · exact hlow top (Nat.le_refl _) htt j hj
      · split
        · exact hlow at_ h1 h2 j hj
        · exact hlow k hk1 hk2 j hj
    have hspan : ∀ v, Span n r3 v ↔ Span n m v := fun v => by
      rw [hr3, show rows.length = r2.length by omega, span_elim ev2 (by omega), hr2, span_norm ev1 (by omega) hne1, hr1, span_swap hev htt h2, hS]
    have hlead : Lead (Span n m) c := ⟨rowB r3 top, (hspan _).1 (Span.row (by rw [hr3]; exact elim_even ev2 (by omega)) (mem_row (by omega))), fun j hj => by rw [keep top htt j hj, if_pos rfl], by rw [q3 top htt, if_pos rfl, hone]; decide⟩
    have hr3' : elimB top c (normB top c (swapB rows top at_)) rows.length = r3 := by rw [hr3, hr2, hr1]
    rw [hr3']
    refine ⟨by rw [hr3]; exact elim_even ev2 (by omega), by omega, by omega, hspan, by rw [leads_succ, if_pos hlead, hcnt], ⟨fun i => if i < top then p i else c, fun i hi => ?_, fun i hi k hk => ?_, fun i hi j hj => ?_, fun i j hij hj => ?_⟩, fun k hk1 hk2 j hj => ?_⟩
    · dsimp only; split
      · have := p1 i (by assumption); omega
      · omega
    · dsimp only
      by_cases hit : i < top
      · rw [if_pos hit, keep k (by omega) _ (p1 i hit)]
        by_cases hkt : k < top
        · rw [if_neg (by omega), old1 k hkt]; exact p2 i hit k (by omega)
        · rw [if_neg (show ¬ k = i by omega)]
          split
          · rfl
          · exact zer1 k (by omega) (by omega) _ (p1 i hit)
      · have hie : i = top := by omega
        subst hie
        rw [if_neg hit, q3 k (by omega)]
        by_cases hki : k = i
        · rw [if_pos hki, if_pos hki]; exact hone
        · rw [if_neg hki, if_neg hki, hone, Gf.mul_one]; exact xor_self' _
    · dsimp only at hj
      by_cases hit : i < top
      · rw [if_pos hit] at hj
        have := p1 i hit
        rw [keep i (by omega) j (by omega), if_neg (by omega), old1 i hit]
        exact p3 i hit j hj
      · have hie : i = top := by omega
        subst hie
        rw [if_neg hit] at hj
        rw [keep i (by omega) j hj, if_pos rfl]
    · dsimp only
      rw [if_pos (show i < top by omega)]
      split
      · exact p4 i j hij (by assumption)
      · exact p1 i (by omega)
    · rcases Nat.lt_succ_iff_lt_or_eq.1 hj with h | rfl
      · rw [keep k (by omega) j h, if_neg (by omega)]; exact zer1 k (by omega) (by omega) j h
      · rw [q3 k (by omega), if_neg (by omega), hone, Gf.mul_one]; exact xor_self' _
theorem way_all (hm : evenB n m) : ∀ c, c ≤ n → Way n m c (reduceB m c).1 (reduceB m c).2
  | 0, _ => way_start hm
  | c + 1, h => by rw [reduceB]; exact way_step hm (way_all hm c (by omega)) (by omega)
theorem reduce_nil : ∀ c, reduceB [] c = (0, [])
  | 0 => rfl
  | c + 1 => by rw [reduceB, reduce_nil c]; rfl
theorem rank_leads (hm : evenB n m) : rankB m = leads (Span n m) n := by
  rw [← (way_all hm n (Nat.le_refl _)).cnt, rankB]
  cases m with
  | nil => rw [reduce_nil, reduce_nil]
  | cons x t => rw [widthB, row_lt (by simp)]; rw [show ((x :: t)[0]).length = n from hm _ (by simp)]
end
section
variable {n : Nat} {m m' : Mat}
theorem leads_mono {S S' : Row → Prop} (h : ∀ v, S v → S' v) (n : Nat) : leads S n ≤ leads S' n := by
  refine List.countP_mono_left fun j _ hj => ?_
  simp only [decide_eq_true_eq] at hj ⊢
  obtain ⟨v, h1, h2⟩ := hj
  exact ⟨v, h v h1, h2⟩
theorem rank_le_cols (hm : evenB n m) : rankB m ≤ n := by
  rw [rank_leads hm]
  have := List.countP_le_length (p := fun j => decide (Lead (Span n m) j)) (l := List.range n)
  simpa [leads] using this
theorem rank_mono (hm : evenB n m) (hm' : evenB n m') (h : ∀ r ∈ m, r ∈ m') : rankB m ≤ rankB m' := by
  rw [rank_leads hm, rank_leads hm']; exact leads_mono (fun v => Span.mono h) n
theorem count_one {P Q : Nat → Bool} (l : List Nat) (hd : l.Nodup) (h1 : ∀ a ∈ l, P a = true → Q a = true) (h2 : ∀ a ∈ l, ∀ b ∈ l, Q a = true → P a = false → Q b = true → P b = false → a = b) : l.countP Q ≤ l.countP P + 1 := by
  induction l with
  | nil => simp
  | cons x t ih =>
    rw [List.nodup_cons] at hd
    have ih' := ih hd.2 (fun a ha => h1 a (by simp [ha])) (fun a ha b hb => h2 a (by simp [ha]) b (by simp [hb]))
    simp only [List.countP_cons]
    cases hQ : Q x with
    | false =>
      have : (if P x = true then 1 else 0) ≥ 0 := by omega
      simp; omega
    | true =>
      cases hP : P x with
      | true => simp; omega
      | false =>
        have : t.countP Q ≤ t.countP P := by
          refine List.countP_mono_left fun a ha hq => ?_
          cases hpa : P a with
          | true => rfl
          | false =>
            have := h2 x (by simp) a (by simp [ha]) hQ hP hq hpa
            subst this
            exact absurd ha hd.1
        simp; omega
theorem span_snoc (hm : evenB n m) {r : Row} (hr : r.length = n) {v : Row} (hv : Span n (m ++ [r]) v) : ∃ (c : UInt8) (u : Row), Span n m u ∧ v = addB c r u := by
  have hev : evenB n (m ++ [r]) := fun x hx => by
    rcases List.mem_append.1 hx with h | h
    · exact hm x h
    · rw [List.mem_singleton.1 h]; exact hr
  induction hv with
  | zero => exact ⟨0, zeroB n, .zero, (row_ext (n := n) (by rw [add_len (by simp [zeroB, hr])]; simp [zeroB]) (by simp [zeroB]) fun j _ => by rw [col_add (by simp [zeroB, hr]), col_zero, Gf.zero_mul]; rfl).symm⟩
  | add d x w hx hw ih =>
    obtain ⟨c, u, hu, rfl⟩ := ih
    have hul := hu.len hm
    rcases List.mem_append.1 hx with h | h
    · have hxl := hm x h
      refine ⟨c, addB d x u, .add d x u h hu, row_ext (n := n) (by rw [add_len (by rw [add_len (by omega)]; omega), add_len (by omega)]; exact hul) (by rw [add_len (by rw [add_len (by omega)]; omega), add_len (by omega)]; exact hul) fun j _ => ?_⟩
      rw [col_add (by rw [add_len (by omega)]; omega), col_add (by omega), col_add (by rw [add_len (by omega)]; omega), col_add (by omega)]
      ac_rfl
    · have hxr := List.mem_singleton.1 h
      subst hxr
      refine ⟨c ^^^ d, u, hu, row_ext (n := n) (by rw [add_len (by rw [add_len (by omega)]; omega), add_len (by omega)]; exact hul) (by rw [add_len (by omega)]; exact hul) fun j _ => ?_⟩
      rw [col_add (by rw [add_len (by omega)]; omega), col_add (by omega), col_add (by omega), Gf.xor_mul]
      ac_rfl
theorem even_snoc (hm : evenB n m) {r : Row} (hr : r.length = n) : evenB n (m ++ [r]) := fun x hx => by
  rcases List.mem_append.1 hx with h | h
  · exact hm x h
  · rw [List.mem_singleton.1 h]; exact hr
theorem rank_snoc (hm : evenB n m) {r : Row} (hr : r.length = n) : rankB m ≤ rankB (m ++ [r]) ∧ rankB (m ++ [r]) ≤ rankB m + 1 := by
  have hev := even_snoc hm hr
  refine ⟨rank_mono hm hev fun x hx => by simp [hx], ?_⟩
  rw [rank_leads hm, rank_leads hev]
  refine count_one _ List.nodup_range (fun a _ ha => ?_) (fun a _ b _ qa pa qb pb => ?_)
  · simp only [decide_eq_true_eq] at ha ⊢
    obtain ⟨v, h1, h2⟩ := ha
    exact ⟨v, Span.mono (fun x hx => by simp [hx]) h1, h2⟩
  · simp only [decide_eq_true_eq, decide_eq_false_iff_not] at qa pa qb pb
    have key : ∀ a b, Lead (Span n (m ++ [r])) a → ¬ Lead (Span n m) a → Lead (Span n (m ++ [r])) b → ¬ Lead (Span n m) b → ¬ a < b := by
      rintro a b ⟨v, hv, hz, hne⟩ pa ⟨w, hw, hzw, hnw⟩ pb hab
      obtain ⟨c, u, hu, rfl⟩ := span_snoc hm hr hv
      obtain ⟨d, u', hu', rfl⟩ := span_snoc hm hr hw
      have l1 := hu.len hm; have l2 := hu'.len hm
      have hd : d ≠ 0 := by
        rintro rfl
        apply pb
        refine ⟨u', hu', fun i hi => ?_, ?_⟩
        · have := hzw i hi; rw [col_add (by omega), Gf.zero_mul, UInt8.xor_zero] at this; exact this
        · rw [col_add (by omega), Gf.zero_mul, UInt8.xor_zero] at hnw; exact hnw
      apply pa
      refine ⟨addB (Gf.mul c (Gf.inv d)) u' u, hu'.comb hm hu _, ?_⟩
      have hval : ∀ j, colB (addB (Gf.mul c (Gf.inv d)) u' u) j = colB (addB c r u) j ^^^ Gf.mul (Gf.mul c (Gf.inv d)) (colB (addB d r u') j) := fun j => by
        rw [col_add (by omega), col_add (by omega), col_add (by omega), Gf.mul_xor, ← Gf.mul_assoc (Gf.mul c (Gf.inv d)) d, Gf.mul_assoc c (Gf.inv d) d, Gf.mul_comm (Gf.inv d) d, Gf.mul_inv hd, Gf.mul_one]
        have : ∀ x y z : UInt8, x ^^^ y = x ^^^ z ^^^ (y ^^^ z) := fun x y z => by
          have : x ^^^ z ^^^ (y ^^^ z) = x ^^^ y ^^^ (z ^^^ z) := by ac_rfl
          rw [this, xor_self', UInt8.xor_zero]
        exact this _ _ _
      refine ⟨fun i hi => ?_, ?_⟩
      · rw [hval, hz i hi, hzw i (by omega), Gf.mul_zero]; rfl
      · rw [hval, hzw a hab, Gf.mul_zero, UInt8.xor_zero]; exact hne
    have h1 := key a b qa pa qb pb
    have h2 := key b a qb pb qa pa
    omega
theorem rank_le_rows (m : Mat) (h : evenB n m) : rankB m ≤ m.length := by
  have key : ∀ k, k ≤ m.length → rankB (m.take k) ≤ k := by
    intro k
    induction k with
    | zero => intro _; simp [rankB, widthB, rowB, reduceB]
    | succ k ih =>
      intro hk
      have ht : evenB n (m.take k) := fun x hx => h x (List.mem_of_mem_take hx)
      have h1 := ih (by omega)
      rw [List.take_succ_eq_append_getElem (by omega)]
      have h2 := (rank_snoc ht (h _ (List.getElem_mem (show k < m.length by omega)))).2
      omega
  have := key m.length (Nat.le_refl _)
  rwa [List.take_of_length_le (Nat.le_refl _)] at this
end
end Wl
namespace Wl
open Go
def rankI (p : Int × Int × Int) (seed : Int) (ids : List Int) : Nat := rankB (matI p seed ids)
def fullI (p : Int × Int × Int) (seed : Int) (ids : List Int) : Bool := mayP p && ((rankI p seed ids : Int) == colsP p)
def firstI (p : Int × Int × Int) : List Int := upto (max 0 (min p.1 16)).toNat
theorem colsP_eq {p : Int × Int × Int} (h : mayP p = true) : colsP p = p.1 + p.2.1 := by rw [colsP, if_pos h]
theorem matI_even (p : Int × Int × Int) (seed : Int) (ids : List Int) : evenB (colsP p).toNat (matI p seed ids) := by
  intro r hr
  unfold matI at hr
  split at hr
  · rename_i hp
    have := (mayP_iff p).1 hp
    rcases List.mem_append.1 hr with h | h
    · obtain ⟨x, _, rfl⟩ := List.mem_map.1 h
      rw [aheadRow_len, colsP_eq hp]; omega
    · obtain ⟨x, _, rfl⟩ := List.mem_map.1 h
      exact rowI_len _ _ _
  · cases hr
theorem matI_len (p : Int × Int × Int) (seed : Int) (ids : List Int) : (matI p seed ids).length ≤ 4 + ids.length := by
  unfold matI
  split
  · rename_i hp
    have := (mayP_iff p).1 hp
    have h1 := List.length_filter_le mayID ids
    simp only [List.length_append, aheadRows, List.length_map, List.length_range]
    omega
  · simp
theorem ahead_even (K H : Nat) : evenB (K + H) (aheadRows K H) := fun r hr => by
  obtain ⟨x, _, rfl⟩ := List.mem_map.1 hr
  exact aheadRow_len _ _ _
theorem rankI_le (p : Int × Int × Int) (seed : Int) (ids : List Int) : (rankI p seed ids : Int) ≤ colsP p := by
  have h := rank_le_cols (matI_even p seed ids)
  have : 0 ≤ colsP p := by
    unfold colsP
    split
    · rename_i hp; have := (mayP_iff p).1 hp; omega
    · omega
  rw [rankI]; omega
theorem matI_snoc (p : Int × Int × Int) (seed : Int) (ids : List Int) (id : Int) : matI p seed (ids ++ [id]) = if mayP p && mayID id then matI p seed ids ++ [rowI (colsP p).toNat seed id] else matI p seed ids := by
  unfold matI
  cases mayP p with
  | false => rfl
  | true =>
    cases h : mayID id with
    | false => simp [List.filter_append, h]
    | true => simp [List.filter_append, h]
def playP (a b c : Int) : Int × Int × Int := (1 + a % 16, 1 + b % 4, 1 + c % 24)
theorem playP_may (a b c : Int) : mayP (playP a b c) = true := by rw [mayP_iff]; simp only [playP]; omega
end Wl
namespace Wl
def augB (a b : Mat) : Mat := List.zipWith (· ++ ·) a b
def cutB (n : Nat) (m : Mat) : Mat := m.map (List.take n)
theorem col_take {r : Row} {n j : Nat} (h : j < n) : colB (r.take n) j = colB r j := by
  simp only [colB, List.getD_eq_getElem?_getD, List.getElem?_take]; rw [if_pos h]
theorem col_drop (r : Row) (n j : Nat) : colB (r.drop n) j = colB r (n + j) := by
  simp only [colB, List.getD_eq_getElem?_getD, List.getElem?_drop]
theorem row_cut (n : Nat) (m : Mat) (i : Nat) : rowB (cutB n m) i = (rowB m i).take n := by
  simp only [rowB, cutB, List.getD_eq_getElem?_getD, List.getElem?_map]
  cases m[i]? with
  | none => simp
  | some r => rfl
theorem cut_len (n : Nat) (m : Mat) : (cutB n m).length = m.length := by simp [cutB]
theorem begins_cut {n top col : Nat} (m : Mat) (h : col < n) : beginsB (cutB n m) top col = beginsB m top col := by
  unfold beginsB
  rw [cut_len]
  congr 1
  funext i
  rw [row_cut, col_take h]
theorem set_cut (n : Nat) (m : Mat) (i : Nat) (r : Row) : cutB n (m.set i r) = (cutB n m).set i (r.take n) := by simp [cutB, List.map_set]
theorem swap_cut (n : Nat) (m : Mat) (i j : Nat) : cutB n (swapB m i j) = swapB (cutB n m) i j := by
  rw [swapB, set_cut, set_cut, swapB, row_cut, row_cut]
theorem scale_cut (n : Nat) (c : UInt8) (r : Row) : (scaleB c r).take n = scaleB c (r.take n) := by simp [scaleB, List.map_take]
theorem add_cut (n : Nat) (c : UInt8) (a t : Row) : (addB c a t).take n = addB c (a.take n) (t.take n) := by simp [addB, List.take_zipWith]
theorem norm_cut {n col : Nat} (h : col < n) (t : Nat) (m : Mat) : cutB n (normB t col m) = normB t col (cutB n m) := by
  rw [normB, set_cut, scale_cut, normB, row_cut, col_take h]
theorem elim_cut {n col : Nat} (h : col < n) (t k : Nat) (m : Mat) : cutB n (elimB t col m k) = elimB t col (cutB n m) k := by
  apply List.ext_getElem?
  intro i
  simp only [cutB, elimB, List.getElem?_map, List.getElem?_mapIdx]
  cases m[i]? with
  | none => rfl
  | some r =>
    simp only [Option.map_some]
    congr 1
    have := row_cut n m t
    rw [cutB] at this
    rw [this, col_take h]
    split
    · exact add_cut _ _ _ _
    · rfl
theorem step_cut {n col : Nat} (h : col < n) (s : Nat × Mat) : ((stepB s col).1, cutB n (stepB s col).2) = stepB (s.1, cutB n s.2) col := by
  unfold stepB
  dsimp only
  rw [begins_cut _ h]
  cases beginsB s.2 s.1 col with
  | none => rfl
  | some i => dsimp only; rw [elim_cut h, norm_cut h, swap_cut, cut_len]
theorem reduce_cut (n : Nat) (m : Mat) : ∀ c, c ≤ n → ((reduceB m c).1, cutB n (reduceB m c).2) = reduceB (cutB n m) c
  | 0, _ => rfl
  | c + 1, h => by
    have ih := reduce_cut n m c (by omega)
    rw [reduceB, reduceB, step_cut (show c < n by omega), ih]
theorem aug_len {a b : Mat} (h : a.length = b.length) : (augB a b).length = a.length := by simp [augB, h]
theorem aug_row {a b : Mat} (h : a.length = b.length) {i : Nat} (hi : i < a.length) : rowB (augB a b) i = rowB a i ++ rowB b i := by
  rw [row_lt (by rw [aug_len h]; exact hi), row_lt hi, row_lt (by omega)]; simp [augB]
theorem aug_even {n w : Nat} {a b : Mat} (h : a.length = b.length) (ha : evenB n a) (hb : evenB w b) : evenB (n + w) (augB a b) := fun r hr => by
  obtain ⟨i, hi, rfl⟩ := row_of_mem hr
  rw [aug_len h] at hi
  rw [aug_row h hi, List.length_append, even_row ha hi, even_row hb (by omega)]
theorem aug_cut {n : Nat} {a b : Mat} (h : a.length = b.length) (ha : evenB n a) : cutB n (augB a b) = a := by
  apply List.ext_getElem (by rw [cut_len, aug_len h])
  intro i h1 h2
  have := row_cut n (augB a b) i
  rw [row_lt h1, aug_row h h2, List.take_left' (even_row ha h2), row_lt h2] at this
  exact this
theorem rank_cut {n : Nat} {a : Mat} (ha : evenB n a) : (reduceB a n).1 = rankB a := by
  rw [rankB]
  cases a with
  | nil => rw [reduce_nil, reduce_nil]
  | cons x t => rw [widthB, row_lt (by simp)]; rw [show ((x :: t)[0]).length = n from ha _ (by simp)]
theorem aug_rank {n : Nat} {a b : Mat} (h : a.length = b.length) (ha : evenB n a) : (reduceB (augB a b) n).1 = rankB a := by
  have := congrArg Prod.fst (reduce_cut n (augB a b) n (Nat.le_refl _))
  rw [aug_cut h ha] at this
  rw [← rank_cut ha]; exact this
def dotR (w : Nat) (r : Row) (X : Mat) : Nat → Row
  | 0 => zeroB w
  | k + 1 => addB (colB r k) (rowB X k) (dotR w r X k)
theorem dotR_len {n w : Nat} {X : Mat} (hX : evenB w X) (hl : X.length = n) (r : Row) : ∀ k, k ≤ n → (dotR w r X k).length = w
  | 0, _ => by simp [dotR, zeroB]
  | k + 1, h => by
    have ih := dotR_len hX hl r k (by omega)
    rw [dotR, add_len (by rw [even_row hX (by omega), ih])]; exact ih
theorem col_dotR {n w : Nat} {X : Mat} (hX : evenB w X) (hl : X.length = n) (r : Row) (j : Nat) : ∀ k, k ≤ n → colB (dotR w r X k) j = dotN (fun i => colB r i) (fun i => colB (rowB X i) j) k
  | 0, _ => by rw [dotR, col_zero]; rfl
  | k + 1, h => by
    have ih := col_dotR hX hl r j k (by omega)
    rw [dotR, col_add (by rw [even_row hX (by omega), dotR_len hX hl r k (by omega)]), ih]; rfl
def solves (n w : Nat) (a b X : Mat) : Prop := X.length = n ∧ evenB w X ∧ ∀ i, i < a.length → dotR w (rowB a i) X n = rowB b i
theorem row_ext' {m m' : Mat} (hl : m.length = m'.length) (h : ∀ i, i < m.length → rowB m i = rowB m' i) : m = m' := by
  apply List.ext_getElem hl
  intro i h1 h2
  have := h i h1
  rwa [row_lt h1, row_lt h2] at this
def phi (n : Nat) (X : Mat) (k : Nat) (v : Row) : UInt8 := colB v (n + k) ^^^ dotN (fun i => colB v i) (fun i => colB (rowB X i) k) n
theorem dotN_congr {f f' g g' : Nat → UInt8} : ∀ k, (∀ i, i < k → f i = f' i) → (∀ i, i < k → g i = g' i) → dotN f g k = dotN f' g' k
  | 0, _, _ => rfl
  | k + 1, h1, h2 => by rw [dotN, dotN, dotN_congr k (fun i hi => h1 i (by omega)) (fun i hi => h2 i (by omega)), h1 k (by omega), h2 k (by omega)]
theorem phi_lin (n : Nat) (X : Mat) (k : Nat) (c : UInt8) (a t : Row) (h : a.length = t.length) : phi n X k (addB c a t) = phi n X k t ^^^ Gf.mul c (phi n X k a) := by
  unfold phi
  rw [col_add h]
  have : dotN (fun i => colB (addB c a t) i) (fun i => colB (rowB X i) k) n = dotN (fun i => colB t i ^^^ Gf.mul c (colB a i)) (fun i => colB (rowB X i) k) n := dotN_congr n (fun i _ => col_add h i) fun _ _ => rfl
  rw [this, dot_lin, Gf.mul_xor]; ac_rfl
theorem col_app {a b : Row} {n : Nat} (ha : a.length = n) (k : Nat) : colB (a ++ b) (n + k) = colB b k := by
  simp only [colB, List.getD_eq_getElem?_getD]
  rw [List.getElem?_append_right (by omega), ha, Nat.add_sub_cancel_left]
theorem col_app' {a b : Row} {n j : Nat} (ha : a.length = n) (hj : j < n) : colB (a ++ b) j = colB a j := by
  simp only [colB, List.getD_eq_getElem?_getD]
  rw [List.getElem?_append_left (by omega)]
theorem xor_zero_iff {a b : UInt8} : a ^^^ b = 0 ↔ a = b := by
  constructor
  · intro h
    have := congrArg (· ^^^ b) h
    simp only [UInt8.zero_xor] at this
    rwa [xor_can] at this
  · rintro rfl; exact xor_self' _
theorem solves_iff {n w : Nat} {a b X : Mat} (h : a.length = b.length) (ha : evenB n a) (hb : evenB w b) (hl : X.length = n) (hX : evenB w X) : solves n w a b X ↔ ∀ k, k < w → ∀ v, Span (n + w) (augB a b) v → phi n X k v = 0 := by
  have hev := aug_even h ha hb
  constructor
  · intro hs k hk v hv
    refine Span.lin hev (phi n X k) ?_ (fun c a t h1 h2 => phi_lin n X k c a t (by omega)) (fun r hr => ?_) hv
    · unfold phi
      rw [col_zero, dot_zero _ _ n fun i _ => col_zero _ _]; rfl
    · obtain ⟨i, hi, rfl⟩ := row_of_mem hr
      rw [aug_len h] at hi
      rw [aug_row h hi]
      unfold phi
      rw [col_app (even_row ha hi), ← hs.2.2 i hi, col_dotR hX hl _ k n (Nat.le_refl _), xor_zero_iff]
      exact dotN_congr n (fun j hj => (col_app' (even_row ha hi) hj).symm) fun _ _ => rfl
  · intro hp
    refine ⟨hl, hX, fun i hi => row_ext (n := w) (dotR_len hX hl _ n (Nat.le_refl _)) (even_row hb (by omega)) fun k hk => ?_⟩
    have := hp k hk _ (Span.row hev (mem_row (show i < (augB a b).length by rw [aug_len h]; exact hi)))
    rw [aug_row h hi] at this
    unfold phi at this
    rw [col_app (even_row ha hi), xor_zero_iff] at this
    rw [this, col_dotR hX hl _ k n (Nat.le_refl _)]
    exact dotN_congr n (fun j hj => (col_app' (even_row ha hi) hj).symm) fun _ _ => rfl
theorem piv_id {n : Nat} {p : Nat → Nat} (h1 : ∀ i, i < n → p i < n) (h2 : ∀ i j, i < j → j < n → p i < p j) : ∀ i, i < n → p i = i := by
  have lo : ∀ i, i < n → i ≤ p i := by
    intro i
    induction i with
    | zero => intro _; omega
    | succ i ih => intro hi; have := ih (by omega); have := h2 i (i + 1) (by omega) hi; omega
  have up : ∀ k i, i + k + 1 = n → p i ≤ i := by
    intro k
    induction k with
    | zero => intro i hi; have := h1 i (by omega); omega
    | succ k ih => intro i hi; have := ih (i + 1) (by omega); have := h2 i (i + 1) (by omega) (by omega); omega
  intro i hi
  have := lo i hi
  have := up (n - 1 - i) i (by omega)
  omega
def solB (n : Nat) (a b : Mat) : Mat := (((reduceB (augB a b) n).2).take n).map (List.drop n)
def calmB (n : Nat) (a b : Mat) : Prop := ∀ r ∈ ((reduceB (augB a b) n).2).drop n, r = zeroB r.length
section
variable {n w : Nat} {a b : Mat}
theorem sol_len (h : a.length = b.length) (ha : evenB n a) (hb : evenB w b) (hr : rankB a = n) : (solB n a b).length = n ∧ evenB w (solB n a b) := by
  have hev := aug_even h ha hb
  have h2 := reduce_even hev n
  have h3 := rank_le_rows a ha
  refine ⟨by rw [solB, List.length_map, List.length_take, h2.2, aug_len h]; omega, fun r hr' => ?_⟩
  obtain ⟨x, hx, rfl⟩ := List.mem_map.1 hr'
  rw [List.length_drop, h2.1 x (List.mem_of_mem_take hx)]; omega
theorem row_sol (h : a.length = b.length) (ha : evenB n a) (hr : rankB a = n) {i : Nat} (hi : i < n) : rowB (solB n a b) i = (rowB (reduceB (augB a b) n).2 i).drop n := by
  simp only [rowB, solB, List.getD_eq_getElem?_getD, List.getElem?_map, List.getElem?_take]
  rw [if_pos hi]
  cases (reduceB (augB a b) n).2[i]? with
  | none => simp
  | some r => rfl
theorem full_way (h : a.length = b.length) (ha : evenB n a) (hb : evenB w b) (hr : rankB a = n) :
    (∀ v, Span (n + w) (reduceB (augB a b) n).2 v ↔ Span (n + w) (augB a b) v) ∧ (reduceB (augB a b) n).2.length = a.length ∧ (∀ i, i < n → ∀ k, k < a.length → colB (rowB (reduceB (augB a b) n).2 k) i = if k = i then 1 else 0) := by
  have hev := aug_even h ha hb
  have W := way_all hev n (by omega)
  have ht : (reduceB (augB a b) n).1 = n := by rw [aug_rank h ha, hr]
  obtain ⟨p, p1, p2, p3, p4⟩ := W.piv
  rw [ht] at p1 p2 p3 p4
  have hid := piv_id p1 p4
  have hl : (reduceB (augB a b) n).2.length = a.length := by rw [W.len, aug_len h]
  refine ⟨W.span, hl, fun i hi k hk => ?_⟩
  have := p2 i hi k (by omega)
  rwa [hid i hi] at this
theorem phi_unit {X : Mat} {r : Row} {i k : Nat} (hi : i < n) (hr : ∀ j, j < n → colB r j = if i = j then 1 else 0) : phi n X k r = colB r (n + k) ^^^ colB (rowB X i) k := by
  unfold phi
  rw [dot_one _ _ i n hi fun j hj => hr j hj]
theorem phi_low {X : Mat} {r : Row} {k : Nat} (hr : ∀ j, j < n → colB r j = 0) : phi n X k r = colB r (n + k) := by
  unfold phi
  rw [dot_zero _ _ n hr, UInt8.xor_zero]
theorem sol_unique (h : a.length = b.length) (ha : evenB n a) (hb : evenB w b) (hr : rankB a = n) {X : Mat} (hX : solves n w a b X) : X = solB n a b ∧ calmB n a b := by
  have hev := aug_even h ha hb
  have h2 := reduce_even hev n
  obtain ⟨hsp, hl, hd⟩ := full_way h ha hb hr
  have hle := rank_le_rows a ha
  have hφ := (solves_iff h ha hb hX.1 hX.2.1).1 hX
  obtain ⟨s1, s2⟩ := sol_len h ha hb hr
  constructor
  · refine row_ext' (by rw [hX.1, s1]) fun i hi => row_ext (n := w) (even_row hX.2.1 hi) (even_row s2 (by rw [s1]; rw [hX.1] at hi; exact hi)) fun k hk => ?_
    rw [hX.1] at hi
    have h3 := hφ k hk _ ((hsp _).1 (Span.row h2.1 (mem_row (show i < (reduceB (augB a b) n).2.length by omega))))
    rw [phi_unit hi fun j hj => hd j hj i (by omega)] at h3
    rw [row_sol h ha hr hi, col_drop]
    exact (xor_zero_iff.1 h3).symm
  · intro r hr'
    obtain ⟨i, hi, rfl⟩ := List.getElem_of_mem hr'
    rw [List.length_drop] at hi
    rw [List.getElem_drop]
    have hi' : n + i < (reduceB (augB a b) n).2.length := by omega
    have e := row_lt hi'
    have hlen := even_row h2.1 hi'
    rw [← e, hlen]
    refine row_ext (n := n + w) hlen (by simp [zeroB]) fun j hj => ?_
    rw [col_zero]
    by_cases hjn : j < n
    · rw [hd j hjn (n + i) (by omega), if_neg (by omega)]
    · obtain ⟨k, rfl⟩ : ∃ k, j = n + k := ⟨j - n, by omega⟩
      have h3 := hφ k (by omega) _ ((hsp _).1 (Span.row h2.1 (mem_row hi')))
      rwa [phi_low fun j hj => by rw [hd j hj (n + i) (by omega), if_neg (by omega)]] at h3
theorem sol_solves (h : a.length = b.length) (ha : evenB n a) (hb : evenB w b) (hr : rankB a = n) (hc : calmB n a b) : solves n w a b (solB n a b) := by
  have hev := aug_even h ha hb
  have h2 := reduce_even hev n
  obtain ⟨hsp, hl, hd⟩ := full_way h ha hb hr
  have hle := rank_le_rows a ha
  obtain ⟨s1, s2⟩ := sol_len h ha hb hr
  refine (solves_iff h ha hb s1 s2).2 fun k hk v hv => ?_
  refine Span.lin h2.1 (phi n (solB n a b) k) ?_ (fun c x t h1 h2 => phi_lin n _ k c x t (by omega)) (fun r hr' => ?_) ((hsp v).2 hv)
  · unfold phi
    rw [col_zero, dot_zero _ _ n fun i _ => col_zero _ _]; rfl
  · obtain ⟨i, hi, rfl⟩ := row_of_mem hr'
    by_cases hin : i < n
    · rw [phi_unit hin fun j hj => hd j hj i (by omega), row_sol h ha hr hin, col_drop]; exact xor_self' _
    · rw [phi_low fun j hj => by rw [hd j hj i (by omega), if_neg (by omega)]]
      have : rowB (reduceB (augB a b) n).2 i ∈ (reduceB (augB a b) n).2.drop n := by
        rw [row_lt hi]
        obtain ⟨d, rfl⟩ : ∃ d, i = n + d := ⟨i - n, by omega⟩
        rw [← List.getElem_drop (h := by rw [List.length_drop]; omega)]
        exact List.getElem_mem _
      rw [hc _ this, col_zero]
theorem calm_square (h : a.length = b.length) (ha : evenB n a) (hb : evenB w b) (hn : a.length = n) : calmB n a b := by
  have hev := aug_even h ha hb
  have h2 := reduce_even hev n
  intro r hr
  rw [List.drop_of_length_le (by rw [h2.2, aug_len h]; omega)] at hr
  cases hr
end
end Wl
namespace Wl
def injL (l : List Int) : Prop := ∀ a b, a < l.length → b < l.length → getI l a = getI l b → a = b
theorem getI_at {l : List Int} {i : Nat} (h : i < l.length) : getI l i = l[i] := by rw [getI, List.getD_eq_getElem?_getD, List.getElem?_eq_getElem h]; rfl
theorem swap_get {l : List Int} {i j k : Nat} (hi : i < l.length) (hj : j < l.length) : getI (swapI l i j) k = if k = j then getI l i else if k = i then getI l j else getI l k := by
  simp only [getI, swapI, List.getD_eq_getElem?_getD, List.getElem?_set, List.length_set]
  by_cases h1 : j = k
  · subst h1; simp [hj]
  · by_cases h2 : i = k
    · subst h2; simp [h1, hi]; omega
    · simp [h1, h2]; omega
theorem swap_inj {l : List Int} {i j : Nat} (hi : i < l.length) (hj : j < l.length) (h : injL l) : injL (swapI l i j) := by
  intro a b ha hb he
  rw [swap_len] at ha hb
  have key : ∀ k, k < l.length → ∃ σ, σ < l.length ∧ getI (swapI l i j) k = getI l σ ∧ (σ = if k = j then i else if k = i then j else k) := fun k hk => by
    rw [swap_get hi hj]
    by_cases h1 : k = j
    · rw [if_pos h1, if_pos h1]; exact ⟨i, hi, rfl, rfl⟩
    · rw [if_neg h1, if_neg h1]
      by_cases h2 : k = i
      · rw [if_pos h2, if_pos h2]; exact ⟨j, hj, rfl, rfl⟩
      · rw [if_neg h2, if_neg h2]; exact ⟨k, hk, rfl, rfl⟩
  obtain ⟨s, hs, e1, d1⟩ := key a ha
  obtain ⟨t, ht, e2, d2⟩ := key b hb
  rw [e1, e2] at he
  have := h s t hs ht he
  subst this
  rw [d1] at d2
  split at d2 <;> split at d2 <;> (try split at d2) <;> (try split at d2) <;> omega
theorem inj_nodup {l : List Int} (h : injL l) : l.Nodup := by
  rw [List.nodup_iff_pairwise_ne, List.pairwise_iff_getElem]
  intro i j hi hj hij he
  have := h i j hi hj (by rw [getI_at hi, getI_at hj]; exact he)
  omega
theorem upto_inj (n : Nat) : injL (upto n) := by
  intro a b ha hb he
  rw [upto_len] at ha hb
  rw [getI_at (by rw [upto_len]; exact ha), getI_at (by rw [upto_len]; exact hb)] at he
  simp [upto] at he
  omega
theorem shuf_inj (n : Nat) (s : Int) : ∀ k, k ≤ n → n ≤ 64 → injL (shuf n s (upto n) k).2
  | 0, _, _ => upto_inj n
  | k + 1, hk, hn => by
    have hl := shuf_len n s (upto n) k
    rw [upto_len] at hl
    have := below_lt (shuf n s (upto n) k).1 ((n - k : Nat) : Int) (by omega) (by omega)
    exact swap_inj (by omega) (by omega) (shuf_inj n s k (by omega) hn)
theorem some_nodup (s : Int) (n k : Nat) (hk : k ≤ n) (hn : n ≤ 64) : (someI s n k).Nodup := by
  have h := (inj_nodup (shuf_inj n s k hk hn)).sublist (List.take_sublist k _)
  exact (List.mergeSort_perm _ _).nodup_iff.2 h
theorem cols_nodup {n : Nat} (h1 : 1 ≤ n) (h2 : n ≤ 20) (seed id : Int) : (colsI n seed id).Nodup := some_nodup _ _ _ (degOf_le _ n h1 h2) (by omega)
theorem cols_sorted (n : Nat) (seed id : Int) : (colsI n seed id).Pairwise (· ≤ ·) := by
  have := List.pairwise_mergeSort (le := fun x y : Int => decide (x ≤ y)) (by intro a b c; simp; omega) (by intro a b; simp; omega) ((shuf n (nxt (nxt (startI seed id))) (upto n) (degOf (nxt (startI seed id)) n)).2.take (degOf (nxt (startI seed id)) n))
  exact this.imp (by simp)
theorem col_set {r : Row} {i j : Nat} {x : UInt8} (hi : i < r.length) : colB (r.set i x) j = if j = i then x else colB r j := by
  simp only [colB, List.getD_eq_getElem?_getD, List.getElem?_set]
  by_cases h : i = j
  · subst h; simp [hi]
  · simp [h]; intro e; exact absurd e.symm h
theorem ones_snoc (n : Nat) (l : List Int) (c : Int) : onesI n (l ++ [c]) = (onesI n l).set c.toNat 1 := by rw [onesI, List.foldl_append]; rfl
theorem col_ones {n : Nat} : ∀ (l : List Int) (_ : ∀ x ∈ l, 0 ≤ x ∧ x < (n : Int)) (j : Nat), colB (onesI n l) j = if (j : Int) ∈ l then 1 else 0 := by
  intro l
  have key : ∀ k, k ≤ l.length → (∀ x ∈ l, 0 ≤ x ∧ x < (n : Int)) → ∀ j : Nat, colB (onesI n (l.take k)) j = if (j : Int) ∈ l.take k then 1 else 0 := by
    intro k
    induction k with
    | zero => intro _ _ j; simp [onesI]; exact col_zero n j
    | succ k ih =>
      intro hk hin j
      have hx := hin _ (List.getElem_mem (show k < l.length by omega))
      rw [List.take_succ_eq_append_getElem (by omega), ones_snoc, col_set (by rw [ones_len]; omega), ih (by omega) hin]
      have hmem : (j : Int) ∈ l.take k ++ [l[k]] ↔ (j : Int) ∈ l.take k ∨ (j : Int) = l[k] := by rw [List.mem_append, List.mem_singleton]
      by_cases h : j = l[k].toNat
      · rw [if_pos h, if_pos (hmem.2 (.inr (by omega)))]
      · rw [if_neg h]
        by_cases h2 : (j : Int) ∈ l.take k
        · rw [if_pos h2, if_pos (hmem.2 (.inl h2))]
        · rw [if_neg h2, if_neg (fun hh => (hmem.1 hh).elim h2 fun h3 => h (by omega))]
  intro hin j
  have := key l.length (Nat.le_refl _) hin j
  rwa [List.take_of_length_le (Nat.le_refl _)] at this
theorem dotN_set {f f' g : Nat → UInt8} {c : Nat} (h0 : f c = 0) (h1 : ∀ i, f' i = if i = c then 1 else f i) : ∀ k, dotN f' g k = dotN f g k ^^^ if c < k then g c else 0
  | 0 => by simp [dotN]
  | k + 1 => by
    rw [dotN, dotN, dotN_set h0 h1 k, h1 k]
    by_cases hk : k = c
    · subst hk
      rw [if_pos rfl, if_neg (by omega), if_pos (by omega), Gf.one_mul, h0, Gf.zero_mul]
    · rw [if_neg hk]
      by_cases h : c < k
      · rw [if_pos h, if_pos (by omega)]; ac_rfl
      · rw [if_neg h, if_neg (by omega)]; simp
def symB (w : Nat) (X : Mat) (l : List Int) : Row := l.foldl (fun s c => addB 1 (rowB X c.toNat) s) (zeroB w)
theorem sym_snoc (w : Nat) (X : Mat) (l : List Int) (c : Int) : symB w X (l ++ [c]) = addB 1 (rowB X c.toNat) (symB w X l) := by rw [symB, List.foldl_append]; rfl
theorem sym_take_len {n w : Nat} {X : Mat} (hX : evenB w X) (hl : X.length = n) {l : List Int} (hin : ∀ x ∈ l, 0 ≤ x ∧ x < (n : Int)) : ∀ k, k ≤ l.length → (symB w X (l.take k)).length = w := by
  intro k
  induction k with
  | zero => intro _; simp [symB, zeroB]
  | succ k ih =>
    intro hk
    have hx := hin _ (List.getElem_mem (show k < l.length by omega))
    rw [List.take_succ_eq_append_getElem (by omega), sym_snoc, add_len (by rw [even_row hX (by omega), ih (by omega)])]
    exact ih (by omega)
theorem sym_len {n w : Nat} {X : Mat} (hX : evenB w X) (hl : X.length = n) {l : List Int} (hin : ∀ x ∈ l, 0 ≤ x ∧ x < (n : Int)) : (symB w X l).length = w := by
  have := sym_take_len hX hl hin l.length (Nat.le_refl _)
  rwa [List.take_of_length_le (Nat.le_refl _)] at this
theorem sym_dot {n w : Nat} {X : Mat} (hX : evenB w X) (hl : X.length = n) {l : List Int} (hin : ∀ x ∈ l, 0 ≤ x ∧ x < (n : Int)) (hd : l.Nodup) : symB w X l = dotR w (onesI n l) X n := by
  have key : ∀ k, k ≤ l.length → symB w X (l.take k) = dotR w (onesI n (l.take k)) X n := by
    intro k
    induction k with
    | zero =>
      intro _
      refine row_ext (n := w) (by simp [symB, zeroB]) (dotR_len hX hl _ n (Nat.le_refl _)) fun j _ => ?_
      rw [col_dotR hX hl _ j n (Nat.le_refl _), dot_zero _ _ n fun i _ => by simp only [List.take_zero, onesI, List.foldl_nil]; exact col_zero n i]
      simp only [List.take_zero, symB, List.foldl_nil]; exact col_zero w j
    | succ k ih =>
      intro hk
      have hx := hin _ (List.getElem_mem (show k < l.length by omega))
      have hlen := sym_take_len hX hl hin k (by omega)
      rw [List.take_succ_eq_append_getElem (by omega), sym_snoc, ones_snoc, ih (by omega)]
      refine row_ext (n := w) ?_ (dotR_len hX hl _ n (Nat.le_refl _)) fun j _ => ?_
      · rw [add_len (by rw [even_row hX (by omega), dotR_len hX hl _ n (Nat.le_refl _)])]; exact dotR_len hX hl _ n (Nat.le_refl _)
      · rw [col_add (by rw [even_row hX (by omega), dotR_len hX hl _ n (Nat.le_refl _)]), col_dotR hX hl _ j n (Nat.le_refl _), col_dotR hX hl _ j n (Nat.le_refl _)]
        have hnot : l[k] ∉ l.take k := fun hm => by
          have e : l = l.take k ++ l[k] :: l.drop (k + 1) := by rw [← List.drop_eq_getElem_cons (by omega), List.take_append_drop]
          rw [e, List.nodup_append] at hd
          exact hd.2.2 _ hm _ List.mem_cons_self rfl
        have h0 : colB (onesI n (l.take k)) l[k].toNat = 0 := by
          rw [col_ones _ (fun x hx => hin x (List.mem_of_mem_take hx)), if_neg]
          intro hm; apply hnot
          have : ((l[k].toNat : Nat) : Int) = l[k] := by omega
          rwa [this] at hm
        rw [dotN_set (f := fun i => colB (onesI n (l.take k)) i) (c := l[k].toNat) h0 (fun i => col_set (by rw [ones_len]; omega)) n, if_pos (by omega), Gf.one_mul]
  have := key l.length (Nat.le_refl _)
  rwa [List.take_of_length_le (Nat.le_refl _)] at this
end Wl
namespace Wl
open Go Go.Vc
def rightB (K H w : Nat) (d : Row) : Mat := List.replicate H (zeroB w) ++ (List.range K).map (pcL d w)
def midP (p : Int × Int × Int) (seed : Int) (d : Row) : Mat := solB (colsP p).toNat (matI p seed (firstI p)) (rightB p.1.toNat p.2.1.toNat p.2.2.toNat d)
structure BlkOk (p : Int × Int × Int) (seed : Int) (d : Row) (K H w n : Nat) : Prop where
  may : mayP p = true
  full : fullI p seed (firstI p) = true
  k : p.1 = K
  h : p.2.1 = H
  s : p.2.2 = w
  n : n = K + H
  k1 : 1 ≤ K
  k2 : K ≤ 16
  h1 : 1 ≤ H
  h2 : H ≤ 4
  w1 : 1 ≤ w
  w2 : w ≤ 24
  len : d.length = K * w
section
variable {p : Int × Int × Int} {seed : Int} {d : Row} {K H w n : Nat}
theorem BlkOk.cols (B : BlkOk p seed d K H w n) : colsP p = n := by rw [colsP_eq B.may, B.k, B.h, B.n]; rfl
theorem BlkOk.colsN (B : BlkOk p seed d K H w n) : (colsP p).toNat = n := by rw [B.cols]; rfl
theorem first_upto (hK : p.1 = (K : Int)) (h : K ≤ 16) : firstI p = upto K := by
  rw [firstI]; congr 1; omega
theorem filter_upto (h : K ≤ 16) : (upto K).filter mayID = upto K := by
  rw [List.filter_eq_self]
  intro x hx
  simp [upto] at hx
  obtain ⟨a, ha, rfl⟩ := hx
  simp [mayID]; omega
theorem BlkOk.mat (B : BlkOk p seed d K H w n) : matI p seed (firstI p) = aheadRows K H ++ (List.range K).map fun i : Nat => rowI n seed (i : Int) := by
  rw [matI, if_pos B.may, first_upto B.k B.k2, filter_upto B.k2, B.k, B.h, B.colsN, Int.toNat_natCast, Int.toNat_natCast, upto, List.map_map]
  rfl
theorem BlkOk.matLen (B : BlkOk p seed d K H w n) : (matI p seed (firstI p)).length = n := by
  rw [B.mat, List.length_append, List.length_map, List.length_range, aheadRows, List.length_map, List.length_range, B.n]; omega
theorem BlkOk.matEven (B : BlkOk p seed d K H w n) : evenB n (matI p seed (firstI p)) := by
  have := matI_even p seed (firstI p)
  rwa [B.colsN] at this
theorem BlkOk.rank (B : BlkOk p seed d K H w n) : rankB (matI p seed (firstI p)) = n := by
  have h := B.full
  rw [fullI, B.may, B.cols, rankI] at h
  simp at h
  exact Int.ofNat.inj h
theorem right_len (K H w : Nat) (d : Row) : (rightB K H w d).length = K + H := by simp [rightB]; omega
theorem right_even (hl : d.length = K * w) : evenB w (rightB K H w d) := fun r hr => by
  rcases List.mem_append.1 hr with h | h
  · rw [(List.mem_replicate.1 h).2]; simp [zeroB]
  · obtain ⟨i, hi, rfl⟩ := List.mem_map.1 h
    rw [List.mem_range] at hi
    exact pcL_len (by rw [hl]; exact Nat.mul_le_mul_right w hi)
theorem right_low {i : Nat} (hi : i < H) : rowB (rightB K H w d) i = zeroB w := by
  rw [rowB, rightB, List.getD_eq_getElem?_getD, List.getElem?_append_left (by simpa using hi)]; simp [hi]
theorem right_high {i : Nat} (hi : i < K) : rowB (rightB K H w d) (H + i) = pcL d w i := by
  rw [rowB, rightB, List.getD_eq_getElem?_getD, List.getElem?_append_right (by simp)]; simp [hi]
theorem BlkOk.mid (B : BlkOk p seed d K H w n) : midP p seed d = solB n (matI p seed (firstI p)) (rightB K H w d) := by
  rw [midP, B.colsN, B.k, B.h, B.s]; rfl
theorem BlkOk.lens (B : BlkOk p seed d K H w n) : (matI p seed (firstI p)).length = (rightB K H w d).length := by rw [B.matLen, right_len, B.n]
theorem BlkOk.midLen (B : BlkOk p seed d K H w n) : (midP p seed d).length = n ∧ evenB w (midP p seed d) := by
  rw [B.mid]; exact sol_len B.lens B.matEven (right_even B.len) B.rank
theorem BlkOk.solves (B : BlkOk p seed d K H w n) : solves n w (matI p seed (firstI p)) (rightB K H w d) (midP p seed d) := by
  rw [B.mid]
  exact sol_solves B.lens B.matEven (right_even B.len) B.rank (calm_square B.lens B.matEven (right_even B.len) B.matLen)
theorem BlkOk.rowLow (B : BlkOk p seed d K H w n) {i : Nat} (hi : i < H) : rowB (matI p seed (firstI p)) i = aheadRow K H i := by
  rw [B.mat, rowB, List.getD_eq_getElem?_getD, List.getElem?_append_left (by simpa [aheadRows] using hi)]; simp [aheadRows, hi]
theorem BlkOk.rowHigh (B : BlkOk p seed d K H w n) {i : Nat} (hi : i < K) : rowB (matI p seed (firstI p)) (H + i) = rowI n seed (i : Int) := by
  rw [B.mat, rowB, List.getD_eq_getElem?_getD, List.getElem?_append_right (by simp [aheadRows])]; simp [aheadRows, hi]
theorem BlkOk.low (B : BlkOk p seed d K H w n) {i : Nat} (hi : i < H) : dotR w (aheadRow K H i) (midP p seed d) n = zeroB w := by
  have := B.solves.2.2 i (by rw [B.matLen, B.n]; omega)
  rwa [B.rowLow hi, right_low hi] at this
theorem BlkOk.high (B : BlkOk p seed d K H w n) {i : Nat} (hi : i < K) : dotR w (rowI n seed (i : Int)) (midP p seed d) n = pcL d w i := by
  have := B.solves.2.2 (H + i) (by rw [B.matLen, B.n]; omega)
  rwa [B.rowHigh hi, right_high hi] at this
theorem BlkOk.n1 (B : BlkOk p seed d K H w n) : 1 ≤ n := by have := B.n; have := B.k1; omega
theorem BlkOk.n2 (B : BlkOk p seed d K H w n) : n ≤ 20 := by have := B.n; have := B.k2; have := B.h2; omega
theorem BlkOk.sym (B : BlkOk p seed d K H w n) (id : Int) : symB w (midP p seed d) (colsI n seed id) = dotR w (rowI n seed id) (midP p seed d) n :=
  sym_dot B.midLen.2 B.midLen.1 (fun _ hx => colsI_mem B.n1 B.n2 hx) (cols_nodup B.n1 B.n2 seed id)
theorem BlkOk.symFirst (B : BlkOk p seed d K H w n) {i : Nat} (hi : i < K) : symB w (midP p seed d) (colsI n seed (i : Int)) = pcL d w i := by rw [B.sym, B.high hi]
theorem BlkOk.symLen (B : BlkOk p seed d K H w n) (id : Int) : (symB w (midP p seed d) (colsI n seed id)).length = w :=
  sym_len B.midLen.2 B.midLen.1 fun _ hx => colsI_mem B.n1 B.n2 hx
end
end Wl
namespace Wl
theorem step_up (s : Nat × Mat) (col : Nat) : (stepB s col).1 ≤ s.1 + 1 := by
  unfold stepB
  cases beginsB s.2 s.1 col with
  | none => exact Nat.le_succ _
  | some i => exact Nat.le_refl _
theorem reduce_up (m : Mat) : ∀ c, (reduceB m c).1 ≤ c
  | 0 => Nat.le_refl _
  | c + 1 => by
    have h1 := step_up (reduceB m c) c
    have h2 := reduce_up m c
    rw [reduceB]; omega
theorem reduce_far (m : Mat) (c : Nat) : ∀ d, (reduceB m (c + d)).1 ≤ (reduceB m c).1 + d
  | 0 => Nat.le_refl _
  | d + 1 => by
    have h1 := step_up (reduceB m (c + d)) (c + d)
    have h2 := reduce_far m c d
    rw [show c + (d + 1) = (c + d) + 1 by omega, reduceB]; omega
theorem full_top {m : Mat} {n : Nat} (h : (reduceB m n).1 = n) {c : Nat} (hc : c ≤ n) : (reduceB m c).1 = c := by
  have h1 := reduce_up m c
  have h2 := reduce_far m c (n - c)
  rw [show c + (n - c) = n by omega, h] at h2
  omega
theorem full_step {m : Mat} {n : Nat} (h : (reduceB m n).1 = n) {c : Nat} (hc : c < n) : ∃ i, beginsB (reduceB m c).2 c c = some i ∧ (reduceB m (c + 1)).2 = elimB c c (normB c c (swapB (reduceB m c).2 c i)) (reduceB m c).2.length := by
  have h1 := full_top h (show c ≤ n by omega)
  have h2 := full_top h (show c + 1 ≤ n by omega)
  rw [reduceB, stepB, h1] at h2
  cases hb : beginsB (reduceB m c).2 c c with
  | none => rw [hb] at h2; dsimp only at h2; omega
  | some i =>
    refine ⟨i, rfl, ?_⟩
    rw [reduceB, stepB, h1, hb]
theorem begins_first {m : Mat} {top col i : Nat} (h : beginsB m top col = some i) {j : Nat} (h1 : top ≤ j) (h2 : j < i) : colB (rowB m j) col = 0 := by
  rw [beginsB, List.find?_range_eq_some] at h
  have := h.2.2 j h2
  simp at this
  exact this.resolve_left (by omega)
theorem scale_drop (n : Nat) (c : UInt8) (r : Row) : (scaleB c r).drop n = scaleB c (r.drop n) := by simp [scaleB, List.map_drop]
theorem add_drop (n : Nat) (c : UInt8) (a t : Row) : (addB c a t).drop n = addB c (a.drop n) (t.drop n) := by simp [addB, List.drop_zipWith]
end Wl
namespace Wl
theorem nodup_len : ∀ {l m : List Nat}, l.Nodup → (∀ x ∈ l, x ∈ m) → l.length ≤ m.length
  | [], _, _, _ => by simp
  | x :: l, m, hd, h => by
    rw [List.nodup_cons] at hd
    have hx := h x (by simp)
    have ih := nodup_len (l := l) (m := m.erase x) hd.2 fun y hy => (List.mem_erase_of_ne (fun hh : y = x => hd.1 (by rw [← hh]; exact hy))).2 (h y (by simp [hy]))
    rw [List.length_erase_of_mem hx] at ih
    have := List.length_pos_of_mem hx
    simp; omega
end Wl
namespace Wl
open Classical
def leadB (r : Row) : Nat := r.findIdx (fun x => x != 0)
section
variable {n : Nat} {m M A : Mat}
structure SpOk (n : Nat) (M A : Mat) : Prop where
  even : evenB n M
  evenA : evenB n A
  span : ∀ v, Span n M v ↔ Span n A v
  len : M.length = rankB A
  lead : ∀ x ∈ M, leadB x < n
theorem way_full (hm : evenB n m) : Way n m n (rankB m) (reduceB m (widthB m)).2 := by
  have h := way_all hm n (Nat.le_refl _)
  cases m with
  | nil => rw [reduce_nil] at h; rw [rankB, reduce_nil]; exact h
  | cons x t =>
    have hw : widthB (x :: t) = n := by rw [widthB, row_lt (by simp)]; exact hm _ (by simp)
    rw [rankB, hw]; exact h
end
end Wl
