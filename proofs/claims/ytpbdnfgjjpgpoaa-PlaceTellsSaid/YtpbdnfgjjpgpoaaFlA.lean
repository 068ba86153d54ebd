/- Part of the proofs that wellspringlaw25's laws answer true whatever the input reads, and leave it as it was; no condition. -/
import Derived.Test.YtpbdnfgjjpgpoaaHpA
set_option linter.unusedVariables false
set_option linter.unusedSimpArgs false
/-! Small whole numbers as floats; complex numbers of them. -/
namespace Go.Vc
open Go
abbrev F64 := FloatKind.format .f64
theorem arith_add {P : Program} {a b c : Nat} (h : F64.add a b = some c) : AlwaysV P (Op.Complex.arith .add .f64 a b) c := fun w => by
  have h' : (FloatKind.format .f64).add a b = some c := h
  unfold Op.Complex.arith Op.floatArith
  simp only [h']
  rfl
theorem arith_sub {P : Program} {a b c : Nat} (h : F64.sub a b = some c) : AlwaysV P (Op.Complex.arith .sub .f64 a b) c := fun w => by
  have h' : (FloatKind.format .f64).sub a b = some c := h
  unfold Op.Complex.arith Op.floatArith
  simp only [h']
  rfl
theorem arith_mul {P : Program} {a b c : Nat} (h : F64.mul a b = some c) : AlwaysV P (Op.Complex.arith .mul .f64 a b) c := fun w => by
  have h' : (FloatKind.format .f64).mul a b = some c := h
  unfold Op.Complex.arith Op.floatArith
  simp only [h']
  rfl
theorem guard_arith {P : Program} {op : BinOp} (h : op = .add ∨ op = .sub ∨ op = .mul) (t : TypeId) (x y : Operand) (a b : Value) : AlwaysV P (eqGuard op t x y a b) () := fun w => by
  rcases h with rfl | rfl | rfl <;> rfl
theorem raw_add {P : Program} {t : TypeId} {x y : Operand} {a b c d e f : Nat} (h1 : F64.add a c = some e) (h2 : F64.add b d = some f) : RawBin P .add t x y (.complex .f64 a b) (.complex .f64 c d) (.complex .f64 e f) :=
  (guard_arith (.inl rfl) t x y _ _).bind (show AlwaysV P (Op.complexOp .add .f64 a b c d) _ from (arith_add h1).bind ((arith_add h2).bind fun _ => rfl))
theorem raw_sub {P : Program} {t : TypeId} {x y : Operand} {a b c d e f : Nat} (h1 : F64.sub a c = some e) (h2 : F64.sub b d = some f) : RawBin P .sub t x y (.complex .f64 a b) (.complex .f64 c d) (.complex .f64 e f) :=
  (guard_arith (.inr (.inl rfl)) t x y _ _).bind (show AlwaysV P (Op.complexOp .sub .f64 a b c d) _ from (arith_sub h1).bind ((arith_sub h2).bind fun _ => rfl))
theorem raw_mul {P : Program} {t : TypeId} {x y : Operand} {a b c d e f m1 m2 m3 m4 : Nat} (h1 : F64.mul a c = some m1) (h2 : F64.mul b d = some m2) (h3 : F64.sub m1 m2 = some e) (h4 : F64.mul a d = some m3) (h5 : F64.mul b c = some m4) (h6 : F64.add m3 m4 = some f) :
    RawBin P .mul t x y (.complex .f64 a b) (.complex .f64 c d) (.complex .f64 e f) := by
  refine (guard_arith (.inr (.inr rfl)) t x y _ _).bind ?_
  have hp : AlwaysV P (Op.Complex.product a b c d) (e, f) :=
    (arith_mul h1).bind ((arith_mul h2).bind ((arith_sub h3).bind ((arith_mul h4).bind ((arith_mul h5).bind ((arith_add h6).bind fun _ => rfl)))))
  show AlwaysV P (Op.complexOp .mul .f64 a b c d) _
  have hc : ∀ x, AlwaysV P (Op.Complex.conv .f64 x .f64) x := fun x w => by unfold Op.Complex.conv; rw [if_pos rfl]; rfl
  unfold Op.complexOp
  refine (hc a).bind ((hc b).bind ((hc c).bind ((hc d).bind ?_)))
  refine AlwaysV.bind (v := (e, f)) ?_ ?_
  · exact hp
  · exact (hc e).bind ((hc f).bind fun _ => rfl)
end Go.Vc

/-! Places on a spiral; how far they are; as whole numbers, and as floats. -/
namespace Wl
open Go Go.Vc
/-- A small number as a float's bits. -/
def fbits (n : Int) : Nat :=
  if n = 0 then 0 else
    let m := n.natAbs
    let e := m.log2
    (if n < 0 then 2 ^ 63 else 0) + (1023 + e) * 2 ^ 52 + (m - 2 ^ e) * 2 ^ (52 - e)
/-- Where one is on the spiral, which step one takes, how many ahead of the turn, how many between turns, is it the second; as floats. -/
structure FSt where
  ax : Nat
  ay : Nat
  sx : Nat
  sy : Nat
  left : Int
  leg : Int
  second : Bool
def one64 : Nat := 4607182418800017408
def fs0 : FSt := ⟨0, 0, one64, 0, 1, 1, false⟩
def fadd (a b : Nat) : Nat := (F64.add a b).getD 0
def fsub (a b : Nat) : Nat := (F64.sub a b).getD 0
def fmul (a b : Nat) : Nat := (F64.mul a b).getD 0
def tx (a b : Nat) : Nat := fsub (fmul a 0) (fmul b one64)
def ty (a b : Nat) : Nat := fadd (fmul a one64) (fmul b 0)
def FSt.on (s : FSt) : FSt :=
  if s.left - 1 > 0 then { s with ax := fadd s.ax s.sx, ay := fadd s.ay s.sy, left := s.left - 1 }
  else { ax := fadd s.ax s.sx, ay := fadd s.ay s.sy, sx := tx s.sx s.sy, sy := ty s.sx s.sy, leg := if s.second then s.leg + 1 else s.leg, left := if s.second then s.leg + 1 else s.leg, second := !s.second }
def fsA : Nat → FSt
  | 0 => fs0
  | n + 1 => (fsA n).on
def FSt.ok (s : FSt) : Bool :=
  (F64.add s.ax s.sx).isSome && (F64.add s.ay s.sy).isSome && (F64.mul s.sx 0).isSome && (F64.mul s.sy one64).isSome && (F64.sub (fmul s.sx 0) (fmul s.sy one64)).isSome && (F64.mul s.sx one64).isSome && (F64.mul s.sy 0).isSome && (F64.add (fmul s.sx one64) (fmul s.sy 0)).isSome && decide (1 ≤ s.left) && decide (s.left ≤ 100) && decide (1 ≤ s.leg) && decide (s.leg ≤ 100)
/-- The same, as whole numbers. -/
structure Spi where
  x : Int
  y : Int
  dx : Int
  dy : Int
  left : Int
  leg : Int
  turns : Int
def spi0 : Spi := ⟨0, 0, 1, 0, 1, 1, 0⟩
def Spi.on (s : Spi) : Spi :=
  if s.left - 1 = 0 then
    { x := s.x + s.dx, y := s.y + s.dy, dx := -s.dy, dy := s.dx, leg := if (s.turns + 1) % 2 = 0 then s.leg + 1 else s.leg, left := if (s.turns + 1) % 2 = 0 then s.leg + 1 else s.leg, turns := s.turns + 1 }
  else { s with x := s.x + s.dx, y := s.y + s.dy, left := s.left - 1 }
def spiA : Nat → Spi
  | 0 => spi0
  | n + 1 => (spiA n).on
def Spi.ok (s : Spi) : Bool := decide (-10 ≤ s.x) && decide (s.x ≤ 10) && decide (-10 ≤ s.y) && decide (s.y ≤ 10) && decide (-1 ≤ s.dx) && decide (s.dx ≤ 1) && decide (-1 ≤ s.dy) && decide (s.dy ≤ 1) && decide (1 ≤ s.left) && decide (s.left ≤ 100) && decide (1 ≤ s.leg) && decide (s.leg ≤ 100) && decide (0 ≤ s.turns) && decide (s.turns ≤ 100)
theorem fs_ok : ∀ n, n < 64 → (fsA n).ok = true := by decide +kernel
theorem spi_ok : ∀ n, n < 64 → (spiA n).ok = true := by decide +kernel
theorem fs_spi : ∀ n, n < 64 → ((fsA n).ax == fbits (spiA n).x && (fsA n).ay == fbits (spiA n).y && decide (-4 ≤ (spiA n).x) && decide ((spiA n).x ≤ 4) && decide (-4 ≤ (spiA n).y) && decide ((spiA n).y ≤ 4)) = true := by decide +kernel
theorem sub_ok : ∀ i, i < 9 → ∀ j, j < 9 → F64.sub (fbits ((i : Nat) - 4 : Int)) (fbits ((j : Nat) - 4 : Int)) = some (fbits ((i : Int) - (j : Int))) := by decide +kernel
theorem mul_ok : ∀ i, i < 17 → F64.mul (fbits ((i : Nat) - 8 : Int)) (fbits ((i : Nat) - 8 : Int)) = some (fbits (((i : Nat) - 8 : Int) * ((i : Nat) - 8 : Int))) := by decide +kernel
theorem add_ok : ∀ i, i < 9 → ∀ j, j < 9 → F64.add (fbits (((i : Nat) : Int) * (i : Nat))) (fbits (((j : Nat) : Int) * (j : Nat))) = some (fbits (((i : Nat) : Int) * (i : Nat) + ((j : Nat) : Int) * (j : Nat))) := by decide +kernel
theorem ord_ok : ∀ m, m < 129 → ∀ n, n < 129 → F64.order (fbits (m : Nat)) (fbits (n : Nat)) = some (compare m n) := by decide +kernel
end Wl
