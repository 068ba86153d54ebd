/- Part of the proofs that wellspringlaw14's laws answer true whatever the input reads, and leave it as it was; no condition. -/
import Derived.Test.YtkcplnfomahleaaGreatDoorPlA
set_option linter.unusedVariables false
set_option linter.unusedSimpArgs false
namespace Gf
set_option maxRecDepth 100000
def pl (a b : Nat) : Nat → Nat
  | 0 => 0
  | i + 1 => if b / 2 ^ i % 2 = 1 then pl a b i ^^^ (a * 2 ^ i) else pl a b i
def rd (p : Nat) : Nat → Nat
  | 0 => p
  | i + 1 => if rd p i / 2 ^ (15 - i) % 2 = 1 then rd p i ^^^ (283 * 2 ^ (7 - i)) else rd p i
theorem bit_xor (p q i : Nat) : (p ^^^ q) / 2 ^ i % 2 = (p / 2 ^ i % 2 + q / 2 ^ i % 2) % 2 := by
  have h := Nat.testBit_xor p q i
  simp only [Nat.testBit_eq_decide_div_mod_eq] at h
  have h1 := Nat.mod_lt ((p ^^^ q) / 2 ^ i) (show 2 > 0 by decide)
  have h2 := Nat.mod_lt (p / 2 ^ i) (show 2 > 0 by decide)
  have h3 := Nat.mod_lt (q / 2 ^ i) (show 2 > 0 by decide)
  generalize (p ^^^ q) / 2 ^ i % 2 = x at *
  generalize p / 2 ^ i % 2 = y at *
  generalize q / 2 ^ i % 2 = z at *
  rcases (show x = 0 ∨ x = 1 by omega) with rfl | rfl <;> rcases (show y = 0 ∨ y = 1 by omega) with rfl | rfl <;> rcases (show z = 0 ∨ z = 1 by omega) with rfl | rfl <;> simp_all
theorem nx4 (a b c d : Nat) : (a ^^^ b) ^^^ (c ^^^ d) = (a ^^^ c) ^^^ (b ^^^ d) := by ac_rfl
theorem step_xor (x y k i : Nat) : (if (x ^^^ y) / 2 ^ i % 2 = 1 then (x ^^^ y) ^^^ k else x ^^^ y) = (if x / 2 ^ i % 2 = 1 then x ^^^ k else x) ^^^ (if y / 2 ^ i % 2 = 1 then y ^^^ k else y) := by
  rw [bit_xor]
  have h2 := Nat.mod_lt (x / 2 ^ i) (show 2 > 0 by decide)
  have h3 := Nat.mod_lt (y / 2 ^ i) (show 2 > 0 by decide)
  rcases (show x / 2 ^ i % 2 = 0 ∨ x / 2 ^ i % 2 = 1 by omega) with h | h <;> rcases (show y / 2 ^ i % 2 = 0 ∨ y / 2 ^ i % 2 = 1 by omega) with h' | h' <;> rw [h, h'] <;> simp
  · ac_rfl
  · ac_rfl
  · rw [nx4, Nat.xor_self, Nat.xor_zero]
theorem rd_xor (p q : Nat) : ∀ i, rd (p ^^^ q) i = rd p i ^^^ rd q i
  | 0 => rfl
  | i + 1 => by simp only [rd, rd_xor p q i]; exact step_xor _ _ _ _
theorem pl_xor (a b c : Nat) : ∀ i, pl a (b ^^^ c) i = pl a b i ^^^ pl a c i
  | 0 => by simp [pl]
  | i + 1 => by
    simp only [pl, pl_xor a b c i, bit_xor]
    have h2 := Nat.mod_lt (b / 2 ^ i) (show 2 > 0 by decide)
    have h3 := Nat.mod_lt (c / 2 ^ i) (show 2 > 0 by decide)
    rcases (show b / 2 ^ i % 2 = 0 ∨ b / 2 ^ i % 2 = 1 by omega) with h | h <;> rcases (show c / 2 ^ i % 2 = 0 ∨ c / 2 ^ i % 2 = 1 by omega) with h' | h' <;> rw [h, h'] <;> simp
    · ac_rfl
    · ac_rfl
    · rw [nx4, Nat.xor_self, Nat.xor_zero]
def polyMul (a b : Nat) : Nat := rd (pl a b 8) 8 % 256
theorem polyMul_xor (a b c : Nat) : polyMul a (b ^^^ c) = polyMul a b ^^^ polyMul a c := by
  unfold polyMul
  rw [pl_xor, rd_xor, show 256 = 2 ^ 8 from rfl, Nat.xor_mod_two_pow]
theorem mul_two : ∀ a : UInt8, mul a 2 = x2 a := all8 (by decide +kernel)
def itx (a : UInt8) : Nat → UInt8
  | 0 => a
  | k + 1 => x2 (itx a k)
theorem pow_two : ∀ k, k < 7 → UInt8.ofNat (2 ^ (k + 1)) = mul (UInt8.ofNat (2 ^ k)) 2 := by decide +kernel
theorem mul_pow (a : UInt8) : ∀ k, k < 8 → mul a (UInt8.ofNat (2 ^ k)) = itx a k
  | 0, _ => mul_one a
  | k + 1, h => by rw [pow_two k (by omega), ← mul_assoc, mul_pow a k (by omega), mul_two]; rfl
theorem poly_pow : ∀ n, n < 256 → ∀ k, k < 8 → polyMul n (2 ^ k) = (itx (UInt8.ofNat n) k).toNat := by decide +kernel
theorem split_bit : ∀ k, k < 8 → ∀ b, b < 256 → b < 2 ^ (k + 1) → 2 ^ k ≤ b → b = (b - 2 ^ k) ^^^ 2 ^ k ∧ UInt8.ofNat b = UInt8.ofNat (b - 2 ^ k) ^^^ UInt8.ofNat (2 ^ k) := by decide +kernel
theorem poly_mul (a : UInt8) : ∀ k, k ≤ 8 → ∀ b, b < 2 ^ k → polyMul a.toNat b = (mul a (UInt8.ofNat b)).toNat
  | 0, _, b, hb => by
    have : b = 0 := by simpa using hb
    subst this
    have h0 : ∀ n, n < 256 → polyMul n 0 = 0 := by decide +kernel
    rw [h0 _ (UInt8.toNat_lt a)]
    show 0 = (mul a 0).toNat
    rw [mul_zero]; rfl
  | k + 1, h, b, hb => by
    have h8 : 2 ^ (k + 1) ≤ 2 ^ 8 := Nat.pow_le_pow_right (by decide) h
    by_cases hk : b < 2 ^ k
    · exact poly_mul a k (by omega) b hk
    · have hs := split_bit k (by omega) b (by omega) hb (by omega)
      rw [hs.2, mul_xor]
      conv => lhs; rw [hs.1]
      rw [polyMul_xor, poly_mul a k (by omega) (b - 2 ^ k) (by omega), poly_pow _ (UInt8.toNat_lt a) k (by omega), UInt8.ofNat_toNat, mul_pow a k (by omega)]
      rfl
theorem polyMul_eq (a b : UInt8) : polyMul a.toNat b.toNat = (mul a b).toNat := by
  have := poly_mul a 8 (Nat.le_refl _) b.toNat (UInt8.toNat_lt b)
  rwa [UInt8.ofNat_toNat] at this
theorem pl_lt (a b : Nat) (ha : a < 256) : ∀ i, i ≤ 8 → pl a b i < 2 ^ 16
  | 0, _ => by simp [pl]
  | i + 1, h => by
    have ih := pl_lt a b ha i (by omega)
    have h1 : a * 2 ^ i < 2 ^ 16 := by
      have : 2 ^ i ≤ 2 ^ 7 := Nat.pow_le_pow_right (by decide) (by omega)
      have := Nat.mul_le_mul (Nat.le_of_lt_succ (show a < 255 + 1 by omega)) this
      omega
    rw [pl]
    split
    · exact Nat.xor_lt_two_pow ih h1
    · exact ih
theorem rd_lt (p : Nat) (hp : p < 2 ^ 16) : ∀ i, i ≤ 8 → rd p i < 2 ^ 16
  | 0, _ => hp
  | i + 1, h => by
    have ih := rd_lt p hp i (by omega)
    have h1 : 283 * 2 ^ (7 - i) < 2 ^ 16 := by
      have : 2 ^ (7 - i) ≤ 2 ^ 7 := Nat.pow_le_pow_right (by decide) (by omega)
      have := Nat.mul_le_mul (Nat.le_refl 283) this
      omega
    rw [rd]
    split
    · exact Nat.xor_lt_two_pow ih h1
    · exact ih
theorem mul_three : ∀ a : UInt8, mul a 3 = x3 a := all8 (by decide +kernel)
theorem inv_unique {a b : UInt8} (h : mul a b = 1) : b = inv a := by
  have ha : a ≠ 0 := fun e => by rw [e, zero_mul] at h; cases h
  have := congrArg (mul (inv a)) h
  rw [← mul_assoc, mul_comm (inv a) a, mul_inv ha, one_mul, mul_one] at this
  exact this
end Gf
