/- Part of the proof that wellspringlaw27's MarginTells answers true whatever the input reads, and leaves it as it was; no condition. -/
import Derived.Test.YtmadbodaleaaeaaGreatTabS
import Derived.Test.YtmadbodaleaaeaaGreatHpA
import Derived.Test.YtmadbodaleaaeaaGreatPlA
import Derived.Test.YtmadbodaleaaeaaGreatShelf
import Derived.Test.YtmadbodaleaaeaaGreatHsA
set_option linter.unusedVariables false
set_option linter.unusedSimpArgs false
namespace Go.Proofs.YtmadbodaleaaeaaGreat
open Go Go.Vc Go.Proofs
set_option maxRecDepth 100000
/-! ### The field -/
theorem u8_all {p : Nat → Prop} (h : ∀ n, n < 256 → p n) (a : UInt8) : p a.toNat := h _ (UInt8.toNat_lt a)
theorem xor_u8 (a b : UInt8) : IntKind.wrap .u8 ((BitVec.ofInt (IntKind.bits .u8) (a.toNat : Int) ^^^ BitVec.ofInt (IntKind.bits .u8) (b.toNat : Int)).toNat : Nat) = ((a ^^^ b).toNat : Int) := by
  have e : ∀ a : UInt8, BitVec.ofInt (IntKind.bits .u8) (a.toNat : Int) = a.toBitVec := fun a => by
    apply BitVec.eq_of_toNat_eq
    have := UInt8.toNat_lt a
    simp [IntKind.bits]
  rw [e, e]
  have hlt := (a.toBitVec ^^^ b.toBitVec).isLt
  have : ((a ^^^ b).toNat : Int) = ((a.toBitVec ^^^ b.toBitVec).toNat : Int) := rfl
  rw [this]
  show (((a.toBitVec ^^^ b.toBitVec).toNat : Nat) : Int) % 256 = _
  have : (a.toBitVec ^^^ b.toBitVec).toNat < 256 := hlt
  omega
def tri (a : UInt8) : Nat → Int × Int × Int
  | 0 => ((a.toNat : Int), (3 : Int), (0 : Int))
  | 1 => (((Gf.x2 a).toNat : Int), (1 : Int), (a.toNat : Int))
  | _ => (((Gf.x2 (Gf.x2 a)).toNat : Int), (0 : Int), ((Gf.x3 a).toNat : Int))
theorem times3_spec (a : UInt8) (h : Heap) : Meets Tryz.prog gf_times_id #[.int .u8 a.toNat, .int .u8 3] h fun v h' => v = .int .u8 (Gf.x3 a).toNat ∧ h' = h := by
  have key : ∀ n : Nat, n < 256 →
      ((IntKind.wrap .u8 ((BitVec.ofInt (IntKind.bits .u8) (n : Int) &&& (BitVec.ofInt (IntKind.bits .u8) (128 : Int))).toNat : Nat)) != (0 : Int)) = true → IntKind.wrap .u8 ((BitVec.ofInt (IntKind.bits .u8) (IntKind.wrap .u8 ((n : Int) * 2 ^ min (1 : Int).toNat (IntKind.bits .u8))) ^^^ (BitVec.ofInt (IntKind.bits .u8) (27 : Int))).toNat : Nat) = ((Gf.x2 (UInt8.ofNat n)).toNat : Int) := by decide +kernel
  have key2 : ∀ n : Nat, n < 256 →
      ((IntKind.wrap .u8 ((BitVec.ofInt (IntKind.bits .u8) (n : Int) &&& (BitVec.ofInt (IntKind.bits .u8) (128 : Int))).toNat : Nat)) != (0 : Int)) = false → IntKind.wrap .u8 ((n : Int) * 2 ^ min (1 : Int).toNat (IntKind.bits .u8)) = ((Gf.x2 (UInt8.ofNat n)).toNat : Int) := by decide +kernel
  refine gf_times_run _ _ ?_
  unfold gf_times_m
  refine loop_inv (tri a) (fun t h' => h' = h ∧ t ≤ 2) (fun t => 2 - t) 0 rfl ⟨rfl, by omega⟩ ?_
  rintro t h' ⟨rfl, ht⟩
  rcases (show t = 0 ∨ t = 1 ∨ t = 2 by omega) with rfl | rfl | rfl
  · rw [show tri a 0 = ((a.toNat : Int), (3 : Int), (0 : Int)) from rfl]
    dsimp only
    refine br_f (by decide) (join_in (br_t (by decide) ?_))
    refine ⟨by decide, join_in ?_⟩
    refine br_b (fun hb => ?_) (fun hb => ?_)
    · rw [key _ (UInt8.toNat_lt a) hb, UInt8.ofNat_toNat]
      refine ⟨by decide, 1, ?_, ⟨rfl, by decide⟩, by decide⟩
      have := xor_u8 0 a
      simp only [UInt8.zero_xor] at this
      exact Prod.ext rfl (Prod.ext rfl this)
    · rw [key2 _ (UInt8.toNat_lt a) hb, UInt8.ofNat_toNat]
      refine ⟨by decide, 1, ?_, ⟨rfl, by decide⟩, by decide⟩
      have := xor_u8 0 a
      simp only [UInt8.zero_xor] at this
      exact Prod.ext rfl (Prod.ext rfl this)
  · rw [show tri a 1 = (((Gf.x2 a).toNat : Int), (1 : Int), (a.toNat : Int)) from rfl]
    dsimp only
    refine br_f (by decide) (join_in (br_t (by decide) ?_))
    refine ⟨by decide, join_in ?_⟩
    refine br_b (fun hb => ?_) (fun hb => ?_)
    · rw [key _ (UInt8.toNat_lt (Gf.x2 a)) hb, UInt8.ofNat_toNat]
      refine ⟨by decide, 2, ?_, ⟨rfl, by decide⟩, by decide⟩
      refine Prod.ext rfl (Prod.ext rfl ?_)
      have := xor_u8 a (Gf.x2 a)
      rw [UInt8.xor_comm] at this
      exact this
    · rw [key2 _ (UInt8.toNat_lt (Gf.x2 a)) hb, UInt8.ofNat_toNat]
      refine ⟨by decide, 2, ?_, ⟨rfl, by decide⟩, by decide⟩
      refine Prod.ext rfl (Prod.ext rfl ?_)
      have := xor_u8 a (Gf.x2 a)
      rw [UInt8.xor_comm] at this
      exact this
  · exact br_t (b := (0 : Int) == 0) (by decide) ⟨rfl, rfl⟩
/-- The tables of the field, as cells. -/
def expL : List Int := (List.range 255).map fun i => ((Gf.pw i).toNat : Int)
def logL : List Int := (List.range 256).map fun x => if x = 0 then 0 else ((Gf.lg (UInt8.ofNat x) : Nat) : Int)
theorem expL_len : expL.length = 255 := by simp [expL]
theorem logL_len : logL.length = 256 := by simp [logL]
def fieldCells : List Value := expL.map (Sc.enc (.int .u8)) ++ logL.map (Sc.enc (.int .i64))
abbrev FieldB (h : Heap) (a : Addr) : Prop := Box h a T_gf_Field fieldCells
theorem one_map (k : IntKind) (l : List Int) : (l.map (Sc.enc (.int k))).all (·.oneCell') = true := by
  rw [List.all_map, List.all_eq_true]; intro x _; rfl
theorem powers_spec (h : Heap) : Meets Tryz.prog gf_powers_id #[] h fun v h' => v = .agg (expL.map (Sc.enc (.int .u8))).toArray ∧ Sp h h' [] := by
  refine gf_powers_run ?_
  unfold gf_powers_m
  refine (Sp.refl h).alloc C_ok rfl fun a h1 H1 => ?_
  refine loop_inv (fun i : Nat => (((Gf.pw i).toNat : Int), (i : Int))) (fun i h' => i ≤ 255 ∧ Sp h h' [BoxA a T_255_uint8 (((List.range 255).map fun j => if j < i then ((Gf.pw j).toNat : Int) else 0).map (Sc.enc (.int .u8)))]) (fun i => 255 - i) 0 rfl ⟨by omega, ?_⟩ ?_
  · have e : ((List.range 255).map fun j => if j < 0 then ((Gf.pw j).toNat : Int) else 0).map (Sc.enc (.int .u8)) = List.replicate 255 (.int .u8 0) := by simp; rfl
    rw [e]; exact H1
  · rintro i h2 ⟨hi, H2⟩
    refine br_dec (fun hlt => ?_) (fun hge => ?_)
    · dsimp only at hlt
      refine ⟨⟨by dsimp only; omega, by dsimp only; omega⟩, ?_⟩
      dsimp only
      rw [show ((i : Int).toNat * 1) = i by omega]
      refine H2.storeAt C_ok 0 rfl rfl rfl rfl rfl (by simp; omega) fun h3 H3 => ?_
      refine (times3_spec (Gf.pw i) h3).mono ?_
      rintro v h4 ⟨rfl, rfl⟩
      refine ⟨_, rfl, i + 1, ?_, ⟨by omega, ?_⟩, by omega⟩
      · rw [wrap_small _ (by omega) (by omega)]; rfl
      · have e : ((((List.range 255).map fun j => if j < i then ((Gf.pw j).toNat : Int) else 0).map (Sc.enc (.int .u8))).set i (.int .u8 (Gf.pw i).toNat)) = (((List.range 255).map fun j => if j < i + 1 then ((Gf.pw j).toNat : Int) else 0).map (Sc.enc (.int .u8))) := by
          apply List.ext_getElem?
          intro j
          simp only [List.getElem?_set, List.getElem?_map, List.length_map, List.length_range]
          by_cases hj : i = j
          · subst hj
            have : i < 255 := by omega
            simp [this]
          · by_cases hj2 : j < 255
            · simp only [hj, if_false, List.getElem?_range hj2, Option.map_some]
              by_cases hj3 : j < i
              · rw [if_pos hj3, if_pos (by omega)]
              · rw [if_neg hj3, if_neg (by omega)]
            · simp [hj, hj2]
        rw [← e]; exact H3
    · have hi' : i = 255 := by dsimp only at hge; omega
      subst hi'
      have e : ((List.range 255).map fun j => if j < 255 then ((Gf.pw j).toNat : Int) else 0) = expL := by
        unfold expL
        apply List.map_congr_left
        intro j hj
        rw [if_pos (List.mem_range.1 hj)]
      rw [e] at H2
      have hb := H2.box 0 rfl
      refine ⟨expL, ⟨expL_len, hb.cells0 _ (by rw [List.take_of_length_le (Nat.le_refl _)])⟩, ?_⟩
      refine H2.storeAll C_ok 0 rfl rfl (expL.map (Sc.enc (.int .u8))) rfl (by rw [List.length_map, expL_len]) (one_map _ _) rfl fun h3 H3 => ?_
      have hb3 := H3.box 0 rfl
      exact ⟨expL, ⟨expL_len, hb3.cells0 _ (by rw [List.take_of_length_le (Nat.le_refl _)])⟩, rfl, .zip H3.pres⟩

theorem logs_spec (h : Heap) : Meets Tryz.prog gf_logs_id #[.agg (expL.map (Sc.enc (.int .u8))).toArray] h fun v h' => v = .agg (logL.map (Sc.enc (.int .i64))).toArray ∧ Sp h h' [] := by
  refine gf_logs_run expL ?_
  unfold gf_logs_m
  refine (Sp.refl h).boxed fun a h1 H1 => ?_
  refine H1.alloc C_ok rfl fun a2 h2 H2 => ?_
  have hb := H2.box 0 rfl
  refine ⟨expL, ⟨expL_len, hb.cells0 _ (by show List.take _ (expL.map _) = _; rw [List.take_of_length_le (Nat.le_refl _)])⟩, ?_⟩
  let L : Nat → List Int := fun i => (List.range 256).map fun x => if x ≠ 0 ∧ Gf.lg (UInt8.ofNat x) < i then ((Gf.lg (UInt8.ofNat x) : Nat) : Int) else 0
  refine loop_inv (fun i : Nat => (i : Int)) (fun i h' => i ≤ 255 ∧ Sp h h' [emp, BoxA a2 T_256_int ((L i).map (Sc.enc (.int .i64)))]) (fun i => 255 - i) 0 rfl ⟨by omega, ?_⟩ ?_
  · have e : (L 0).map (Sc.enc (.int .i64)) = List.replicate 256 (.int .i64 0) := by simp [L]; rfl
    rw [e]
    exact H2.weak 0 rfl fun _ _ => trivial
  · rintro i h3 ⟨hi, H3⟩
    refine br_dec (fun hlt => ?_) (fun hge => ?_)
    · have hi' : i < 255 := by omega
      have hp := UInt8.toNat_lt (Gf.pw i)
      refine ⟨((Gf.pw i).toNat : Int), ⟨by omega, by omega, by simp [expL, hi']⟩, ⟨by omega, by omega⟩, ?_⟩
      rw [show (((Gf.pw i).toNat : Int).toNat * 1) = (Gf.pw i).toNat by omega]
      refine H3.storeAt C_ok 1 rfl rfl rfl rfl rfl (by simp [L]; omega) fun h4 H4 => ?_
      refine ⟨i + 1, by rw [wrap_small _ (by omega) (by omega)]; rfl, ⟨by omega, ?_⟩, by omega⟩
      have e : ((L i).map (Sc.enc (.int .i64))).set (Gf.pw i).toNat (.int .i64 i) = (L (i + 1)).map (Sc.enc (.int .i64)) := by
        apply List.ext_getElem?
        intro j
        simp only [List.getElem?_set, List.getElem?_map, List.length_map, List.length_range, L]
        by_cases hj : (Gf.pw i).toNat = j
        · subst hj
          simp only [if_true, List.getElem?_range hp, Option.map_some, hp]
          have hne : (Gf.pw i).toNat ≠ 0 := fun h0 => Gf.pw_ne i hi' (UInt8.toNat_inj.1 h0)
          rw [UInt8.ofNat_toNat, Gf.lg_pw i hi', if_pos ⟨hne, by omega⟩]
        · by_cases hj2 : j < 256
          · simp only [hj, if_false, List.getElem?_range hj2, Option.map_some]
            by_cases hj3 : j = 0
            · simp [hj3]
            · have hn : Gf.lg (UInt8.ofNat j) ≠ i := fun h0 => by
                apply hj
                rw [← h0, Gf.pw_lg _ (fun hz => hj3 (by have := congrArg UInt8.toNat hz; simpa [Nat.mod_eq_of_lt hj2] using this))]
                simp [Nat.mod_eq_of_lt hj2]
              by_cases hl : Gf.lg (UInt8.ofNat j) < i
              · rw [if_pos ⟨hj3, hl⟩, if_pos ⟨hj3, by omega⟩]
              · rw [if_neg fun hh => hl hh.2, if_neg fun hh => hl (by omega)]
          · simp [hj, hj2]
      rw [← e]; exact H4
    · have hi' : i = 255 := by omega
      subst hi'
      have e : L 255 = logL := by
        unfold logL
        apply List.map_congr_left
        intro j hj
        by_cases hj3 : j = 0
        · simp [hj3]
        · rw [if_pos ⟨hj3, Gf.lg_lt _⟩, if_neg hj3]
      rw [e] at H3
      have hb := H3.box 1 rfl
      refine ⟨logL, ⟨logL_len, hb.cells0 _ (by rw [List.take_of_length_le (Nat.le_refl _)])⟩, ?_⟩
      refine H3.storeAll C_ok 1 rfl rfl (logL.map (Sc.enc (.int .i64))) rfl (by rw [List.length_map, logL_len]) (one_map _ _) rfl fun h4 H4 => ?_
      have hb4 := H4.box 1 rfl
      exact ⟨logL, ⟨logL_len, hb4.cells0 _ (by rw [List.take_of_length_le (Nat.le_refl _)])⟩, rfl, .zip H4.pres⟩
/-- A new field. -/
theorem gfNew_spec (h : Heap) : Meets Tryz.prog gf_New_id #[] h fun v h' => ∃ a : Addr, v = .pointer (some a) ∧ Sp h h' [BoxA a T_gf_Field fieldCells] := by
  refine gf_New_run ?_
  unfold gf_New_m
  refine (powers_spec h).mono ?_
  rintro v h1 ⟨rfl, H1⟩
  refine ⟨expL, rfl, ?_⟩
  refine H1.alloc C_ok rfl fun a h2 H2 => ?_
  refine H2.storeAll C_ok 0 rfl rfl (expL.map (Sc.enc (.int .u8))) rfl (by rw [List.length_map, expL_len]) (one_map _ _) (by rw [List.length_map, expL_len]; rfl) fun h3 H3 => ?_
  have hb := H3.box 0 rfl
  have hc : cellsAt h3 a 0 (expL.map (Sc.enc (.int .u8))) := hb.cells0 _ (by rw [List.take_of_length_le (Nat.le_refl _)])
  refine ⟨expL, ⟨expL_len, hc⟩, expL, ⟨expL_len, hc⟩, ?_⟩
  refine (logs_spec h3).mono ?_
  rintro v h4 ⟨rfl, H4⟩
  refine ⟨logL, rfl, cellList_ok.2 ⟨(H4.pres).cells hb.lt hc, trivial⟩, _, always_build C_ok (i := _) rfl rfl rfl (cells := fieldCells.toArray) ?_, ?_⟩
  · have hz : ∀ z : List Value, z.length = 511 → Instr.fill (fun n => [(0, 255), (255, 256)][n]?) z.toArray [(0, .agg (expL.map (Sc.enc (.int .u8))).toArray), (1, .agg (logL.map (Sc.enc (.int .i64))).toArray)] = some fieldCells.toArray := by
      intro z hz
      have e : z = [] ++ z.take 255 ++ z.drop 255 := by simp
      conv => lhs; rw [e]
      rw [fill_one (vs := expL.map (Sc.enc (.int .u8))) rfl (by simp [expL_len]) (by simp [expL_len, hz])]
      have e2 : [] ++ expL.map (Sc.enc (.int .u8)) ++ z.drop 255 = expL.map (Sc.enc (.int .u8)) ++ z.drop 255 ++ [] := by simp
      rw [e2, fill_one (vs := logL.map (Sc.enc (.int .i64))) rfl (by simp [expL_len, logL_len]) (by simp [logL_len, hz])]
      simp [Instr.fill, fieldCells]
    exact hz _ rfl
  · have hcl : (Value.agg fieldCells.toArray).cells.toList = fieldCells := rfl
    refine (H3.comp H4).boxed fun a7 h5 H5 => ?_
    have hb5 := H5.box 0 rfl
    exact ⟨cellList_ok.2 ⟨hb5.cells0 _ (by rw [List.take_of_length_le (Nat.le_refl _)]), trivial⟩, a7, rfl, H5.take 1 (fun i A hi => by cases i with | zero => exact hi | succ i => simp at hi)⟩
end Go.Proofs.YtmadbodaleaaeaaGreat

namespace Go.Proofs.YtmadbodaleaaeaaGreat
open Go Go.Vc Go.Proofs
set_option maxRecDepth 100000
theorem field_exp {h : Heap} {a : Addr} (hf : FieldB h a) (n : Nat) (hn : n < 255) : cellOf h (a.add n) = some (.int .u8 (Gf.pw n).toNat) :=
  hf.cell (by rw [fieldCells, List.getElem?_append_left (by simp [expL_len, hn])]; simp [expL, hn])
theorem field_log {h : Heap} {a : Addr} (hf : FieldB h a) (x : UInt8) (hx : x ≠ 0) : cellOf h ((a.add 255).add x.toNat) = some (.int .i64 (Gf.lg x)) := by
  have ha := hf.addr
  have e : (a.add 255).add x.toNat = a.add (255 + x.toNat) := by rw [ha, add_eq, add_eq, add_eq]; congr 1; omega
  rw [e]
  refine hf.cell ?_
  have hlt := UInt8.toNat_lt x
  have h0 : x.toNat ≠ 0 := fun h0 => hx (UInt8.toNat_inj.1 h0)
  rw [fieldCells, List.getElem?_append_right (by simp [expL_len])]
  simp [expL_len, logL, hlt, h0]
theorem own_field_spec (a : Addr) (h : Heap) : Meets Tryz.prog gf_Field_own_id #[.pointer (some a)] h fun v h' => v = .pointer (some a) ∧ h' = h := by
  refine gf_Field_own_run (some a) ?_
  unfold gf_Field_own_m
  exact br_f rfl ⟨rfl, rfl⟩
theorem mat_sure_spec (a : Addr) (h : Heap) : Meets Tryz.prog mat_sure_id #[.pointer (some a)] h fun v h' => v = .pointer (some a) ∧ h' = h := by
  refine mat_sure_run (some a) ?_
  unfold mat_sure_m
  exact br_f rfl ⟨rfl, rfl⟩
theorem row_sure_spec (a : Addr) (h : Heap) : Meets Tryz.prog row_sure_id #[.pointer (some a)] h fun v h' => v = .pointer (some a) ∧ h' = h := by
  refine row_sure_run (some a) ?_
  unfold row_sure_m
  exact br_f rfl ⟨rfl, rfl⟩
theorem nat0 {x : UInt8} : ((x.toNat : Int) = 0) ↔ x = 0 := ⟨fun h => UInt8.toNat_inj.1 (by simpa using h), fun h => by rw [h]; rfl⟩
theorem mul_spec (a : Addr) (x y : UInt8) (h : Heap) (hf : FieldB h a) : Meets Tryz.prog gf_Field_Mul_id #[.pointer (some a), .int .u8 x.toNat, .int .u8 y.toNat] h fun v h' => v = .int .u8 (Gf.mul x y).toNat ∧ h' = h := by
  refine gf_Field_Mul_run (some a) _ _ ?_
  unfold gf_Field_Mul_m
  refine join_in ?_
  refine br_eq (fun h0 => ⟨by rw [Gf.mul, if_pos (.inl (nat0.1 h0))]; rfl, rfl⟩) (fun hx => ?_)
  refine br_eq (fun h0 => ⟨by rw [Gf.mul, if_pos (.inr (nat0.1 h0))]; rfl, rfl⟩) (fun hy => ?_)
  have hx' : x ≠ 0 := fun h0 => hx (nat0.2 h0)
  have hy' : y ≠ 0 := fun h0 => hy (nat0.2 h0)
  refine (own_field_spec a h).mono ?_
  rintro v h2 ⟨rfl, rfl⟩
  have b1 := UInt8.toNat_lt x; have b2 := UInt8.toNat_lt y
  have l1 := Gf.lg_lt x; have l2 := Gf.lg_lt y
  refine ⟨some a, rfl, a, rfl, ⟨by omega, by omega⟩, (Gf.lg x : Int), ?_, a, rfl, ⟨by omega, by omega⟩, (Gf.lg y : Int), ?_, by decide, a, rfl, ?_⟩
  · rw [show ((x.toNat : Int).toNat * 1) = x.toNat by omega]; exact field_log hf x hx'
  · rw [show ((y.toNat : Int).toNat * 1) = y.toNat by omega]; exact field_log hf y hy'
  rw [wrap_small _ (by omega) (by omega)]
  have e : Int.tmod ((Gf.lg x : Int) + (Gf.lg y : Int)) 255 = (((Gf.lg x + Gf.lg y) % 255 : Nat) : Int) := by
    rw [Int.tmod_eq_emod_of_nonneg (by omega)]; rfl
  rw [e]
  have hlt := Nat.mod_lt (Gf.lg x + Gf.lg y) (show 255 > 0 by decide)
  refine ⟨⟨by omega, by omega⟩, _, ?_, by rw [Gf.mul, if_neg (by simp [hx', hy'])], rfl⟩
  rw [show ((((Gf.lg x + Gf.lg y) % 255 : Nat) : Int).toNat * 1) = (Gf.lg x + Gf.lg y) % 255 by omega]
  exact field_exp hf _ hlt
theorem inv_spec (a : Addr) (x : UInt8) (h : Heap) (hf : FieldB h a) : Meets Tryz.prog gf_Field_Inv_id #[.pointer (some a), .int .u8 x.toNat] h fun v h' => v = .int .u8 (Gf.inv x).toNat ∧ h' = h := by
  refine gf_Field_Inv_run (some a) _ ?_
  unfold gf_Field_Inv_m
  refine br_eq (fun h0 => ⟨by rw [Gf.inv, if_pos (nat0.1 h0)]; rfl, rfl⟩) (fun hx => ?_)
  have hx' : x ≠ 0 := fun h0 => hx (nat0.2 h0)
  refine (own_field_spec a h).mono ?_
  rintro v h2 ⟨rfl, rfl⟩
  have b1 := UInt8.toNat_lt x
  have l1 := Gf.lg_lt x
  refine ⟨some a, rfl, a, rfl, ⟨by omega, by omega⟩, (Gf.lg x : Int), ?_, by decide, a, rfl, ?_⟩
  · rw [show ((x.toNat : Int).toNat * 1) = x.toNat by omega]; exact field_log hf x hx'
  rw [wrap_small _ (by omega) (by omega)]
  have e : Int.tmod (255 - (Gf.lg x : Int)) 255 = (((255 - Gf.lg x) % 255 : Nat) : Int) := by
    rw [Int.tmod_eq_emod_of_nonneg (by omega)]; omega
  rw [e]
  have hlt := Nat.mod_lt (255 - Gf.lg x) (show 255 > 0 by decide)
  refine ⟨⟨by omega, by omega⟩, _, ?_, by rw [Gf.inv, if_neg hx'], rfl⟩
  rw [show ((((255 - Gf.lg x) % 255 : Nat) : Int).toNat * 1) = (255 - Gf.lg x) % 255 by omega]
  exact field_exp hf _ hlt
theorem exp_spec (a : Addr) (n : Int) (h : Heap) (hf : FieldB h a) : Meets Tryz.prog gf_Field_Exp_id #[.pointer (some a), .int .i64 n] h fun v h' => v = .int .u8 (Gf.pw (n % 255).toNat).toNat ∧ h' = h := by
  refine gf_Field_Exp_run (some a) n ?_
  unfold gf_Field_Exp_m
  have h1 := Int.tmod_lt_of_pos n (show (0 : Int) < 255 by decide)
  have h2 : -255 < n.tmod 255 := Int.lt_tmod_of_pos n (by decide)
  have he := tmod_fix n 255 (by decide)
  have hp0 := Int.emod_nonneg n (show (255 : Int) ≠ 0 by decide)
  have hp1 := Int.emod_lt_of_pos n (show (0 : Int) < 255 by decide)
  refine ⟨by decide, join_cut (fun s h' => s = n % 255 ∧ h' = h) ?_ ?_⟩
  · refine br_dec (fun hlt => ?_) (fun hge => ?_)
    · rw [if_pos hlt] at he
      exact ⟨by rw [wrap_small _ (by omega) (by omega), he], rfl⟩
    · rw [if_neg hge] at he
      exact ⟨he.symm, rfl⟩
  · rintro s h' ⟨rfl, rfl⟩
    refine (own_field_spec a h').mono ?_
    rintro v h2 ⟨rfl, rfl⟩
    refine ⟨some a, rfl, a, rfl, ⟨hp0, hp1⟩, _, ?_, rfl, rfl⟩
    rw [Nat.mul_one]
    exact field_exp hf _ (by omega)
/-! ### Params -/
abbrev Pm := Int × Int × Int
abbrev pmv (p : Pm) : Value := .agg #[.int .i64 p.1, .int .i64 p.2.1, .int .i64 p.2.2]
end Go.Proofs.YtmadbodaleaaeaaGreat
namespace Go.Proofs.YtmadbodaleaaeaaGreat
open Go Go.Vc Go.Proofs Wl
theorem pre_May_spec (p : Pm) (h : Heap) : Meets Tryz.prog pre_May_id #[pmv p] h fun v h' => v = .bool (mayP p) ∧ Sp h h' [] := by
  refine pre_May_run p ?_
  unfold pre_May_m
  refine (Sp.refl h).boxed fun a h1 H1 => ?_
  have hb := H1.box 0 rfl
  have hz : Sp h h1 [] := .zip H1.pres
  have c0 : cellOf h1 a = some (.int .i64 p.1) := hb.cell0 rfl
  have c1 : cellOf h1 (a.add 1) = some (.int .i64 p.2.1) := hb.cell rfl
  have c2 : cellOf h1 (a.add 2) = some (.int .i64 p.2.2) := hb.cell rfl
  unfold mayP
  refine ⟨_, c0, br_dec (fun e1 => ?_) (fun e1 => ⟨by rw [decide_eq_false e1]; rfl, hz⟩)⟩
  rw [decide_eq_true e1]
  refine ⟨_, c0, br_dec (fun e1 => ?_) (fun e1 => ⟨by rw [decide_eq_false e1]; rfl, hz⟩)⟩
  rw [decide_eq_true e1]
  refine ⟨_, c1, br_dec (fun e1 => ?_) (fun e1 => ⟨by rw [decide_eq_false e1]; rfl, hz⟩)⟩
  rw [decide_eq_true e1]
  refine ⟨_, c1, br_dec (fun e1 => ?_) (fun e1 => ⟨by rw [decide_eq_false e1]; rfl, hz⟩)⟩
  rw [decide_eq_true e1]
  refine ⟨_, c2, br_dec (fun e1 => ?_) (fun e1 => ⟨by rw [decide_eq_false e1]; rfl, hz⟩)⟩
  rw [decide_eq_true e1]
  exact ⟨_, c2, rfl, hz⟩
theorem pre_Cols_spec (p : Pm) (h : Heap) : Meets Tryz.prog pre_Cols_id #[pmv p] h fun v h' => v = .int .i64 (colsP p) ∧ Sp h h' [] := by
  refine pre_Cols_run p ?_
  unfold pre_Cols_m
  refine (Sp.refl h).boxed fun a h1 H1 => ?_
  refine ⟨p, (H1.box 0 rfl).cells0 _ rfl, ?_⟩
  refine (pre_May_spec p h1).mono ?_
  rintro v h2 ⟨rfl, H2⟩
  have H12 := H1.comp H2
  have hb := H12.box 0 rfl
  refine ⟨_, rfl, br_not (fun e => ⟨by simp [colsP, e], .zip H12.pres⟩) (fun e => ?_)⟩
  refine ⟨_, hb.cell0 rfl, _, hb.cell rfl, ?_, .zip H12.pres⟩
  have := (mayP_iff p).1 e
  rw [wrap_small _ (by omega) (by omega), colsP, if_pos e]
theorem unit_spec (n i : Int) (h : Heap) : Meets Tryz.prog row_Unit_id #[.int .i64 n, .int .i64 i] h fun v h' => ∃ s : Sl, v = .slice s.ptr s.len s.cap ∧
    Sp h h' [OwnA T_uint8 s 1 u8v (if 1 ≤ n ∧ n ≤ 64 ∧ 0 ≤ i ∧ i < n then (List.replicate n.toNat (0 : UInt8)).set i.toNat 1 else [])] := by
  refine row_Unit_run n i ?_
  unfold row_Unit_m
  have no : ∀ c : Prop, ¬ c → [Decidable c] → Sp h h [OwnA T_uint8 ⟨none, 0, 0⟩ 1 u8v (if c then (List.replicate n.toNat (0 : UInt8)).set i.toNat 1 else [])] := fun c hc _ => by
    rw [if_neg hc]; exact (Sp.refl h).nil T_uint8 1 u8v
  refine join_in ?_
  refine br_dec (fun e => ⟨⟨none, 0, 0⟩, rfl, no _ (by omega)⟩) (fun e1 => ?_)
  refine br_dec (fun e => ⟨⟨none, 0, 0⟩, rfl, no _ (by omega)⟩) (fun e2 => ?_)
  refine br_dec (fun e => ⟨⟨none, 0, 0⟩, rfl, no _ (by omega)⟩) (fun e3 => ?_)
  refine br_dec (fun e => ⟨⟨none, 0, 0⟩, rfl, no _ (by omega)⟩) (fun e4 => ?_)
  refine (Sp.refl h).make C_ok u8v ⟨_, _, rfl, rfl, rfl, rfl, rfl, rfl⟩ (by decide) 0 rfl rfl n.toNat n.toNat (by omega) (by omega) (Nat.le_refl _) (by omega) fun s h1 hl hc H1 => ?_
  refine H1.set C_ok 0 rfl (fun _ => rfl) rfl i.toNat (by omega) (by simp; omega) 1 rfl rfl rfl fun h2 H2 => ?_
  refine ⟨s, rfl, ?_⟩
  rw [if_pos (by omega)]
  exact H2
end Go.Proofs.YtmadbodaleaaeaaGreat

namespace Go.Proofs.YtmadbodaleaaeaaGreat
open Go Go.Vc Go.Proofs Wl
set_option maxRecDepth 100000
/-! ### Draws -/
theorem draw_New_spec (s : Int) (h : Heap) : Meets Tryz.prog draw_New_id #[.int .u32 s] h fun v h' => ∃ a : Addr, v = .pointer (some a) ∧ Sp h h' [BoxA a T_draw_Draw [.int .u64 (IntKind.wrap .u64 s)]] := by
  refine draw_New_run s ?_
  unfold draw_New_m
  exact (Sp.refl h).boxed fun a h1 H1 => ⟨a, rfl, H1⟩
theorem draw_Next_spec (a : Addr) (s : Int) (h : Heap) (hb : Box h a T_draw_Draw [.int .u64 s]) : Meets Tryz.prog draw_Draw_Next_id #[.pointer (some a)] h fun v h' => v = .int .u32 (told s) ∧ Box h' a T_draw_Draw [.int .u64 (nxt s)] ∧ Pres (· ≠ a.block) h h' := by
  refine draw_Draw_Next_run (some a) ?_
  unfold draw_Draw_Next_m
  refine br_f rfl ⟨a, rfl, s, hb.cell0 rfl, a, rfl, ?_⟩
  refine run_store0 C_ok hb rfl _ rfl rfl rfl (Nat.le_refl _) fun h1 hb1 hp1 _ => ?_
  exact ⟨a, rfl, _, hb1.cell0 rfl, by decide, rfl, hb1, hp1⟩
theorem below_spec (a : Addr) (s n : Int) (h : Heap) (hb : Box h a T_draw_Draw [.int .u64 s]) (hn : 0 < n) (hn2 : n ≤ 2 ^ 62) : Meets Tryz.prog draw_Draw_Below_id #[.pointer (some a), .int .i64 n] h fun v h' => v = .int .i64 (belowI s n) ∧ Box h' a T_draw_Draw [.int .u64 (nxt s)] ∧ Pres (· ≠ a.block) h h' := by
  refine draw_Draw_Below_run (some a) n ?_
  unfold draw_Draw_Below_m
  refine join_in (br_f rfl (br_dec (fun e => by omega) fun _ => ?_))
  refine (draw_Next_spec a s h hb).mono ?_
  rintro v h1 ⟨rfl, hb1, hp1⟩
  exact ⟨_, rfl, by rw [wrap_u64]; omega, rfl, hb1, hp1⟩
/-! ### How many -/
theorem i64_add (a b : Nat) (h1 : a ≤ 2 ^ 40) (h2 : b ≤ 2 ^ 40) : IntKind.wrap .i64 ((a : Int) + (b : Int)) = ((a + b : Nat) : Int) := by
  rw [wrap_small _ (by omega) (by omega)]; rfl
theorem root_spec (l : Nat) (h : Heap) (hl : l ≤ 20) : Meets Tryz.prog soliton_root_id #[.int .i64 l] h fun v h' => v = .int .i64 (rootI l) ∧ h' = h := by
  have k1 : ∀ l : Nat, l ≤ 20 → ∀ r : Nat, r ≤ 5 → (∀ j, j < r → j * j < l) → r * r < l → r < 5 := by decide
  have k2 : ∀ l : Nat, l ≤ 20 → ∀ r : Nat, r ≤ 5 → (∀ j, j < r → j * j < l) → ¬ r * r < l → r = rootI l := by decide
  refine soliton_root_run l ?_
  unfold soliton_root_m
  refine loop_inv (fun r : Nat => (r : Int)) (fun r h' => h' = h ∧ r ≤ 5 ∧ ∀ j, j < r → j * j < l) (fun r => 5 - r) 0 rfl ⟨rfl, by omega, fun j hj => by omega⟩ ?_
  rintro r h' ⟨rfl, hr, hj⟩
  have hsq : r * r ≤ 25 := Nat.mul_le_mul hr hr
  have e : IntKind.wrap .i64 ((r : Int) * (r : Int)) = ((r * r : Nat) : Int) := by rw [← Int.natCast_mul]; exact i64_of_nat _ (by omega)
  rw [e]
  refine br_dec (fun hlt => ?_) (fun hge => ?_)
  · have hlt' : r * r < l := by omega
    have h5 := k1 l hl r hr hj hlt'
    refine ⟨r + 1, by rw [wrap_small _ (by omega) (by omega)]; rfl, ⟨rfl, by omega, fun j hj' => ?_⟩, by omega⟩
    rcases Nat.lt_succ_iff_lt_or_eq.1 hj' with hj' | rfl
    · exact hj j hj'
    · exact hlt'
  · exact ⟨by rw [k2 l hl r hr hj (by omega)], rfl⟩
theorem bits_spec (r : Nat) (h : Heap) (hr : r ≤ 5) : Meets Tryz.prog math_bits_Len_id #[.int .u64 r] h fun v h' => v = .int .i64 (bitsI r) ∧ h' = h := by
  intro w hw
  refine (Tryz.bits_Len (r : Int) w (by omega) (by omega)).mono ?_
  rintro e w' ⟨rfl, rfl⟩
  have k : ∀ r : Nat, r ≤ 5 → Lib.bitLen r = bitsI r := by decide +kernel
  exact ⟨_, rfl, Like.refl _, by rw [Int.toNat_natCast, k r hr], hw⟩
theorem weight_spec (l k : Nat) (h : Heap) (hl : l ≤ 20) (hl1 : 1 ≤ l) (hk : k ≤ 20) (hk1 : 1 ≤ k) : Meets Tryz.prog soliton_weight_id #[.int .i64 l, .int .i64 k] h fun v h' => v = .int .i64 (weightI l k) ∧ h' = h := by
  have c1 : ∀ k : Nat, k ≤ 20 → 1 < k → IntKind.wrap .i64 ((k : Int) * IntKind.wrap .i64 ((k : Int) - 1)) = ((k * (k - 1) : Nat) : Int) ∧ k * (k - 1) ≠ 0 := by decide
  have c2 : ∀ l : Nat, l ≤ 20 → 1 ≤ l → 1 ≤ rootI l ∧ rootI l ≤ 5 := by decide
  have c3 : ∀ l : Nat, l ≤ 20 → 1 ≤ l → IntKind.wrap .i64 (Int.tdiv (l : Int) (rootI l)) = ((l / rootI l : Nat) : Int) := by decide
  have c4 : ∀ l : Nat, l ≤ 20 → 1 ≤ l → ∀ k : Nat, k ≤ 20 → 1 ≤ k → IntKind.wrap .i64 ((l : Int) * k) ≠ 0 := by decide +kernel
  have c5 : ∀ k : Nat, k ≤ 20 → 1 < k → IntKind.wrap .i64 (Int.tdiv (1048576 : Int) (IntKind.wrap .i64 ((k : Int) * IntKind.wrap .i64 ((k : Int) - 1)))) = ((1048576 / (k * (k - 1)) : Nat) : Int) := by decide +kernel
  have c6 : ∀ l : Nat, l ≤ 20 → 1 ≤ l → IntKind.wrap .i64 (Int.tdiv (1048576 : Int) (l : Int)) = ((1048576 / l : Nat) : Int) := by decide +kernel
  have c7 : ∀ l : Nat, l ≤ 20 → 1 ≤ l → ∀ k : Nat, k ≤ 20 → 1 ≤ k → IntKind.wrap .i64 (Int.tdiv (IntKind.wrap .i64 ((1048576 : Int) * rootI l)) (IntKind.wrap .i64 ((l : Int) * k))) = ((1048576 * rootI l / (l * k) : Nat) : Int) := by decide +kernel
  have c8 : ∀ l : Nat, l ≤ 20 → 1 ≤ l → IntKind.wrap .i64 (Int.tdiv (IntKind.wrap .i64 ((IntKind.wrap .i64 ((1048576 : Int) * rootI l)) * bitsI (rootI l))) (l : Int)) = ((1048576 * rootI l * bitsI (rootI l) / l : Nat) : Int) := by decide +kernel
  have c9 : ∀ l : Nat, l ≤ 20 → ∀ k : Nat, k ≤ 20 → 1048576 * rootI l / (l * k) ≤ 2 ^ 30 ∧ 1048576 * rootI l * bitsI (rootI l) / l ≤ 2 ^ 30 ∧ 1048576 / (k * (k - 1)) ≤ 2 ^ 30 ∧ 1048576 / l ≤ 2 ^ 30 := by decide +kernel
  refine soliton_weight_run l k ?_
  unfold soliton_weight_m
  have hw := c9 l hl k hk
  refine (root_spec l h hl).mono ?_
  rintro v h1 ⟨rfl, rfl⟩
  have hr := c2 l hl hl1
  refine ⟨_, rfl, by omega, join_cut (fun s h' => s = (((if k > 1 then 1048576 / (k * (k - 1)) else 1048576 / l) : Nat) : Int) ∧ h' = h1) ?_ ?_⟩
  · refine br_dec (fun e => ?_) (fun e => ?_)
    · have := c1 k hk (by omega)
      refine ⟨by rw [this.1]; omega, by rw [c5 k hk (by omega), if_pos (by omega)], rfl⟩
    · refine ⟨by rw [c6 l hl hl1, if_neg (by omega)], rfl⟩
  · rintro s h2 ⟨rfl, rfl⟩
    have hb : (if k > 1 then 1048576 / (k * (k - 1)) else 1048576 / l) ≤ 2 ^ 30 := by split <;> first | exact hw.2.2.1 | exact hw.2.2.2
    refine join_in ?_; dsimp only
    refine ⟨show ((rootI l : Nat) : Int) ≠ 0 by omega, ?_⟩
    rw [c3 l hl hl1]
    refine br_dec (fun e => ⟨c4 l hl hl1 k hk hk1, ?_, rfl⟩) (fun e => ?_)
    · rw [c7 l hl hl1 k hk hk1, i64_add _ _ (by omega) (Nat.le_trans hw.1 (by decide)), weightI, if_pos (c := k < l / rootI l) (Int.ofNat_lt.1 e)]
    · refine br_eq (fun e2 => ?_) (fun e2 => ?_)
      · have e3 : IntKind.wrap .u64 (rootI l : Int) = (rootI l : Int) := by rw [wrap_u64]; omega
        rw [e3]
        refine (bits_spec (rootI l) h2 hr.2).mono ?_
        rintro v h3 ⟨rfl, rfl⟩
        refine ⟨_, rfl, by omega, ?_, rfl⟩
        rw [c8 l hl hl1, i64_add _ _ (by omega) (Nat.le_trans hw.2.1 (by decide)), weightI, if_neg (c := k < l / rootI l) (fun hh => e (Int.ofNat_lt.2 hh)), if_pos (c := k = l / rootI l) (Int.ofNat_inj.1 e2)]
      · exact ⟨by rw [weightI, if_neg (c := k < l / rootI l) (fun hh => e (Int.ofNat_lt.2 hh)), if_neg (c := k = l / rootI l) (fun hh => e2 (Int.ofNat_inj.2 hh)), Nat.add_zero], rfl⟩
abbrev eInt : ElemOk C.toCfg T_sl_int T_int 1 [.int .i64 0] 8 := ⟨_, _, rfl, rfl, rfl, rfl, rfl, rfl⟩
abbrev eU8 : ElemOk C.toCfg T_sl_uint8 T_uint8 1 [.int .u8 0] 1 := ⟨_, _, rfl, rfl, rfl, rfl, rfl, rfl⟩
abbrev eSlU8 : ElemOk C.toCfg T_sl_sl_uint8 T_sl_uint8 1 [.slice none 0 0] 24 := ⟨_, _, rfl, rfl, rfl, rfl, rfl, rfl⟩
theorem table_spec (l : Nat) (h : Heap) (hl : l ≤ 20) (hl1 : 1 ≤ l) : Meets Tryz.prog soliton_Table_id #[.int .i64 l] h fun v h' => ∃ s : Sl, v = .slice s.ptr s.len s.cap ∧ Sp h h' [OwnA T_int s 1 intv (tableI l)] := by
  refine soliton_Table_run l ?_
  unfold soliton_Table_m
  refine join_in (br_dec (fun e => by omega) fun _ => br_dec (fun e => by omega) fun _ => ?_)
  refine (Sp.refl h).make C_ok intv eInt (by decide) 0 rfl rfl 0 l rfl rfl (by omega) (by omega) fun s h1 hl' hc H1 => ?_
  refine loop_inv (fun t : Sl × Nat => (t.1, ((sumI l t.2 : Nat) : Int), ((t.2 + 1 : Nat) : Int))) (fun t h' => t.2 ≤ l ∧ Sp h h' [OwnA T_int t.1 1 intv ((tableI l).take t.2)]) (fun t => l - t.2) (s, 0) rfl ⟨by simp, by simpa using H1⟩ ?_
  rintro ⟨s, k⟩ h2 ⟨hk, H2⟩
  dsimp only at *
  refine br_dec (fun e => ?_) (fun e => ?_)
  · refine (weight_spec l (k + 1) h2 hl hl1 (by omega) (by omega)).mono ?_
    rintro v h3 ⟨rfl, rfl⟩
    refine ⟨_, rfl, ?_⟩
    have b1 := sumI_le l hl k (by omega)
    have b2 := weightI_le l hl (k + 1) (by omega)
    have e2 : IntKind.wrap .i64 ((sumI l k : Int) + (weightI l (k + 1) : Int)) = ((sumI l (k + 1) : Nat) : Int) := by rw [wrap_small _ (by omega) (by omega), sumI]; rfl
    dsimp only
    rw [e2]
    refine H2.push C_ok 0 rfl eInt rfl (by decide) (fun _ => rfl) one_int _ rfl (by decide) (by rw [List.length_take]; omega) fun s' h4 H4 => ?_
    refine ⟨(s', k + 1), by dsimp only; rw [wrap_small _ (by omega) (by omega)]; rfl, ⟨by dsimp only; omega, ?_⟩, by dsimp only; omega⟩
    have e3 : (tableI l).take (k + 1) = (tableI l).take k ++ [((sumI l (k + 1) : Nat) : Int)] := by
      rw [take_snoc _ _ (by rw [tableI_len]; omega)]; simp [tableI]
    dsimp only; rw [e3]; exact H4
  · refine ⟨s, rfl, ?_⟩
    rw [List.take_of_length_le (by rw [tableI_len]; omega)] at H2
    exact H2
theorem degree_spec {p : Blocks} (t : Sl) (lt : List Int) (x last : Int) (h : Heap) (ht : Seq h p t 1 intv lt) (hx : 0 ≤ x) (hlast : lt.getLast? = some last) (hxl : x < last) (hs : lt.length ≤ 2 ^ 40) :
    Meets Tryz.prog soliton_Degree_id #[.slice t.ptr t.len t.cap, .int .i64 x] h fun v h' => v = .int .i64 (degI lt x) ∧ h' = h := by
  refine soliton_Degree_run t x ?_
  unfold soliton_Degree_m
  have hl := ht.len
  have hne : lt ≠ [] := fun e => by rw [e] at hlast; cases hlast
  have hpos : 0 < lt.length := List.length_pos_iff.2 hne
  have hla : lt[lt.length - 1] = last := by rw [List.getLast?_eq_getElem?, List.getElem?_eq_getElem (by omega)] at hlast; simpa using hlast
  refine join_in (br_eq (fun e => by omega) fun _ => br_dec (fun e => by omega) fun _ => ?_)
  rw [wrap_small _ (by omega) (by omega)]
  refine ht.get1 (lt.length - 1) (by omega) (by omega) _ rfl ?_
  rw [hla]
  refine br_dec (fun e => by omega) fun _ => ?_
  have hfi : (lt.findIdx fun y => decide (y > x)) < lt.length := List.findIdx_lt_length_of_exists ⟨last, List.mem_of_getLast? hlast, by simpa using hxl⟩
  refine loop_inv (fun k : Nat => (k : Int)) (fun k h' => h' = h ∧ k ≤ (lt.findIdx fun y => decide (y > x))) (fun k => lt.length - k) 0 rfl ⟨rfl, by omega⟩ ?_
  rintro k h' ⟨rfl, hk⟩
  refine br_dec (fun e => ?_) (fun e => by omega)
  have hk' : k < lt.length := by omega
  refine ht.get1 k rfl hk' _ rfl ?_
  rw [wrap_small _ (by omega) (by omega)]
  refine br_dec (fun e2 => ?_) (fun e2 => ?_)
  · have : (lt.findIdx fun y => decide (y > x)) = k := Nat.le_antisymm (Nat.le_of_not_lt fun hlt => by have := List.not_of_lt_findIdx hlt; simp at this; omega) hk
    exact ⟨by rw [degI, this]; rfl, rfl⟩
  · refine ⟨k + 1, rfl, ⟨rfl, ?_⟩, by omega⟩
    refine Nat.lt_of_le_of_ne hk fun he => ?_
    have := List.findIdx_getElem (xs := lt) (p := fun y => decide (y > x)) (w := hfi)
    simp only [← he] at this
    simp at this; omega
theorem soliton_Draw_spec (t : Sl) (n : Nat) (a : Addr) (s : Int) (h : Heap) (ht : Seq h (· ≠ a.block) t 1 intv (tableI n)) (hb : Box h a T_draw_Draw [.int .u64 s]) (hn1 : 1 ≤ n) (hn : n ≤ 20) :
    Meets Tryz.prog soliton_Draw_id #[.slice t.ptr t.len t.cap, .pointer (some a)] h fun v h' => v = .int .i64 (degOf s n) ∧ Box h' a T_draw_Draw [.int .u64 (nxt s)] ∧ Pres (· ≠ a.block) h h' := by
  refine soliton_Draw_run t (some a) ?_
  unfold soliton_Draw_m
  have hl := ht.len
  rw [tableI_len] at hl
  refine br_eq (fun e => by omega) fun _ => ?_
  rw [wrap_small _ (by omega) (by omega)]
  refine ht.get1 (n - 1) (by omega) (by rw [tableI_len]; omega) _ rfl ?_
  have e1 : (tableI n)[n - 1]'(by rw [tableI_len]; omega) = ((sumI n n : Nat) : Int) := by simp only [tableI, List.getElem_map, List.getElem_range]; rw [show n - 1 + 1 = n by omega]
  rw [e1]
  have hp := sumI_pos n hn hn1
  have hs2 := sumI_le n hn n hn
  refine (below_spec a s _ h hb (by omega) (by omega)).mono ?_
  rintro v h1 ⟨rfl, hb1, hp1⟩
  have hbl := below_lt s (sumI n n) (by omega) (by omega)
  refine ⟨_, rfl, (degree_spec t (tableI n) _ _ h1 (ht.pres hp1) hbl.1 (table_last n hn1) hbl.2 (by rw [tableI_len]; omega)).mono ?_⟩
  rintro v h2 ⟨rfl, rfl⟩
  exact ⟨_, rfl, rfl, hb1, hp1⟩
end Go.Proofs.YtmadbodaleaaeaaGreat

namespace Go.Proofs.YtmadbodaleaaeaaGreat
open Go Go.Vc Go.Proofs Wl
set_option maxRecDepth 100000
theorem clone_int_spec (s : Sl) (l : List Int) (h : Heap) (hs : Rd h s 1 intv l) (hsz : l.length ≤ 2 ^ 30) : Meets Tryz.prog slices_Clone_int_int_id #[.slice s.ptr s.len s.cap] h fun v h' => ∃ r : Sl, v = .slice r.ptr r.len r.cap ∧ Sp h h' [OwnA T_int r 1 intv l] := by
  refine slices_Clone_int_int_run s ?_
  unfold slices_Clone_int_int_m
  refine br_b (fun e => ?_) (fun e => ?_)
  · have := hs.isNil e
    subst this
    exact ⟨⟨none, 0, 0⟩, rfl, (Sp.refl h).nil T_int 1 intv⟩
  · refine (Sp.refl h).lit C_ok intv eInt rfl [] rfl (by decide) rfl fun s1 h1 H1 => ?_
    refine H1.append C_ok 0 rfl eInt ⟨_, _, rfl, rfl⟩ rfl (by decide) (fun _ => rfl) (hs.up H1.pres) one_int (by simp; omega) fun s2 h2 H2 => ⟨s2, rfl, H2⟩
theorem cloneB_spec (s : Sl) (l : List UInt8) (h : Heap) (hs : Rd h s 1 u8v l) (hsz : l.length ≤ 2 ^ 30) : Meets Tryz.prog bytes_Clone_id #[.slice s.ptr s.len s.cap] h fun v h' => ∃ r : Sl, v = .slice r.ptr r.len r.cap ∧ Sp h h' [OwnA T_uint8 r 1 u8v l] := by
  refine bytes_Clone_run s ?_
  unfold bytes_Clone_m
  refine br_b (fun e => ?_) (fun e => ?_)
  · have := hs.isNil e
    subst this
    exact ⟨⟨none, 0, 0⟩, rfl, (Sp.refl h).nil T_uint8 1 u8v⟩
  · refine (Sp.refl h).lit C_ok u8v eU8 rfl [] rfl (by decide) rfl fun s1 h1 H1 => ?_
    refine H1.append C_ok 0 rfl eU8 ⟨_, _, rfl, rfl⟩ rfl (by decide) (fun _ => rfl) (hs.up H1.pres) one_u8 (by simp; omega) fun s2 h2 H2 => ⟨s2, rfl, H2⟩
theorem sort_spec {e : TypeId} (s : Sl) (l : List Int) (h : Heap) (ho : Own h e s 1 intv l) (hsz : l.length < 2 ^ 40) : Meets Tryz.prog slices_Sort_int_int_id #[.slice s.ptr s.len s.cap] h fun v h' => v = .tuple #[] ∧ Own h' e s 1 intv (sortI l) ∧ Pres (fun b => ¬ s.on b) h h' :=
  sort_spec_of Tryz.slices_Sort_int Tryz.slices_Sort_int_none ho hsz
/-- 'l[i], l[j] = l[j], l[i]'. -/
theorem some_spec (a : Addr) (s : Int) (n k : Nat) (h : Heap) (hb : Box h a T_draw_Draw [.int .u64 s]) (hn : n ≤ 64) (hk : k ≤ n) :
    Meets Tryz.prog choose_Some_id #[.pointer (some a), .int .i64 n, .int .i64 k] h fun v h' => ∃ r : Sl, v = .slice r.ptr r.len r.cap ∧ SpB (fun b => b < h.size ∧ ¬ b = a.block) h h' [BoxA a T_draw_Draw [.int .u64 (shuf n s (upto n) k).1], OwnA T_int r 1 intv (someI s n k)] := by
  refine choose_Some_run (some a) n k ?_
  unfold choose_Some_m
  refine join_in (br_dec (fun e => by omega) fun _ => br_dec (fun e => by omega) fun _ => br_dec (fun e => by omega) fun _ => br_dec (fun e => by omega) fun _ => ?_)
  have H0 : SpB (fun b => b < h.size ∧ ¬ b = a.block) h h [BoxA a T_draw_Draw [.int .u64 s]] := .enter1 (fun b => b = a.block) (fun b hb' => by rw [hb']; exact hb.lt) ⟨hb, rfl⟩
  refine H0.make C_ok intv eInt (by decide) 0 rfl rfl n n rfl rfl (Nat.le_refl _) (by omega) fun v h1 hl hc H1 => ?_
  refine loop_inv (fun i : Nat => (i : Int)) (fun i h' => i ≤ n ∧ SpB (fun b => b < h.size ∧ ¬ b = a.block) h h' [BoxA a T_draw_Draw [.int .u64 s], OwnA T_int v 1 intv ((upto n).take i ++ List.replicate (n - i) 0)]) (fun i => n - i) 0 rfl ⟨by omega, by simpa using H1⟩ ?_
  rintro i h2 ⟨hi, H2⟩
  refine br_dec (fun e => ?_) (fun e => ?_)
  · have hi' : i < n := by omega
    refine H2.set C_ok 1 rfl (fun _ => rfl) rfl i rfl (by simp [upto_len]; omega) (i : Int) rfl rfl rfl fun h3 H3 => ?_
    refine ⟨i + 1, by rw [wrap_small _ (by omega) (by omega)]; rfl, ⟨by omega, ?_⟩, by omega⟩
    have e2 : ((upto n).take i ++ List.replicate (n - i) 0).set i (i : Int) = (upto n).take (i + 1) ++ List.replicate (n - (i + 1)) 0 := by
      have hl2 : ((upto n).take i).length = i := by rw [List.length_take, upto_len]; omega
      rw [take_snoc _ _ (by rw [upto_len]; omega), List.set_append_right _ _ (by omega), hl2, Nat.sub_self, show n - i = n - (i + 1) + 1 by omega, List.replicate_succ, List.set_cons_zero]
      simp [upto]
    rw [← e2]; exact H3
  · have hi' : i = n := by omega
    subst hi'
    have e2 : (upto i).take i ++ List.replicate (i - i) 0 = upto i := by rw [List.take_of_length_le (by rw [upto_len]; omega)]; simp
    rw [e2] at H2
    refine loop_inv (fun j : Nat => (j : Int)) (fun j h' => j ≤ k ∧ SpB (fun b => b < h.size ∧ ¬ b = a.block) h h' [BoxA a T_draw_Draw [.int .u64 (shuf i s (upto i) j).1], OwnA T_int v 1 intv (shuf i s (upto i) j).2]) (fun j => k - j) 0 rfl ⟨by omega, H2⟩ ?_
    rintro j h3 ⟨hj, H3⟩
    have hsl := shuf_len i s (upto i) j
    rw [upto_len] at hsl
    refine br_dec (fun e3 => ?_) (fun e3 => ?_)
    · rw [wrap_small _ (by omega) (by omega)]
      have hcast : ((i : Int) - (j : Int)) = ((i - j : Nat) : Int) := by omega
      rw [hcast]
      refine (below_spec a _ _ h3 (H3.box 0 rfl) (by omega) (by omega)).mono ?_
      rintro w h4 ⟨rfl, hb4, hp4⟩
      have H4 := H3.boxStep 0 rfl hp4 hb4
      have hbl := below_lt (shuf i s (upto i) j).1 ((i - j : Nat) : Int) (by omega) (by omega)
      refine ⟨_, rfl, ?_⟩
      dsimp only
      rw [wrap_small _ (by omega) (by omega), wrap_small _ (by omega) (by omega)]
      have hx : (j : Int) + belowI (shuf i s (upto i) j).1 ((i - j : Nat) : Int) = ((j + (belowI (shuf i s (upto i) j).1 ((i - j : Nat) : Int)).toNat : Nat) : Int) := by omega
      have hlt : j + (belowI (shuf i s (upto i) j).1 ((i - j : Nat) : Int)).toNat < (shuf i s (upto i) j).2.length := by omega
      rw [hx]
      have hs4 := H4.seq 1 rfl (fun _ => rfl)
      refine hs4.get1 _ rfl hlt _ rfl ?_
      refine hs4.get1 j rfl (by omega) _ rfl ?_
      refine H4.set C_ok 1 rfl (fun _ => rfl) rfl j rfl (by omega) _ rfl rfl rfl fun h5 H5 => ⟨trivial, ?_⟩
      refine H5.set C_ok 1 rfl (fun _ => rfl) rfl _ rfl (by simpa using hlt) _ rfl rfl rfl fun h6 H6 => ⟨trivial, ?_⟩
      refine ⟨j + 1, rfl, ⟨by omega, ?_⟩, by omega⟩
      rw [shuf, swapI, getI, getI, Go.Vc.getD_lt hlt, Go.Vc.getD_lt (show j < (shuf i s (upto i) j).2.length by omega)]
      exact H6
    · have hj' : j = k := by omega
      subst hj'
      refine ⟨⟨by omega, by omega⟩, ?_⟩
      have hs3 := H3.seq 1 rfl (fun _ => rfl)
      refine (clone_int_spec ⟨v.ptr, j, v.cap⟩ ((shuf i s (upto i) j).2.take j) h3 (hs3.take j (by omega)) (by rw [List.length_take]; omega)).mono ?_
      rintro w h4 ⟨r, rfl, H4⟩
      refine ⟨r, rfl, ?_⟩
      refine (sort_spec r _ h4 (H4.own 0 rfl) (by rw [List.length_take]; omega)).mono ?_
      rintro w h5 ⟨rfl, ho5, hp5⟩
      have H5 := (H3.comp H4).ownStep 2 rfl hp5 ho5
      exact ⟨(), rfl, r, rfl, H5.del 1⟩
theorem seq_ne {α : Type} {h : Heap} {p q : Blocks} {s : Sl} {k : Nat} {f : α → List Value} {l : List α} (hs : Seq h p s k f l) (hq : ∀ b, p b → q b) : Seq h q s k f l := hs.mono hq
theorem cols_spec (p : Pm) (seed id : Int) (h : Heap) : Meets Tryz.prog lt_Cols_id #[pmv p, .int .u32 seed, .int .i64 id] h fun v h' => ∃ r : Sl, v = .slice r.ptr r.len r.cap ∧ Sp h h' [OwnA T_int r 1 intv (if mayP p && mayID id then colsI (colsP p).toNat seed id else [])] := by
  refine lt_Cols_run p seed id ?_
  unfold lt_Cols_m
  refine (Sp.refl h).boxed fun a h1 H1 => ?_
  refine join_in ?_
  refine ⟨p, (H1.box 0 rfl).cells0 _ rfl, (pre_May_spec p h1).mono ?_⟩
  rintro v h2 ⟨rfl, R2⟩
  have H2 := H1.comp R2
  have no : (mayP p && mayID id) = false → Sp h h2 [OwnA T_int ⟨none, 0, 0⟩ 1 intv (if mayP p && mayID id then colsI (colsP p).toNat seed id else [])] := fun hf => by
    rw [hf]; exact (H2.nil T_int 1 intv).take 1 (fun i A hi => by cases i with | zero => exact hi | succ i => simp at hi)
  refine ⟨_, rfl, br_not (fun e => ⟨⟨none, 0, 0⟩, rfl, no (by rw [e]; rfl)⟩) fun hp => ?_⟩
  refine br_dec (fun e => ⟨⟨none, 0, 0⟩, rfl, no (by simp [mayID]; omega)⟩) fun e1 => ?_
  refine br_dec (fun e => ⟨⟨none, 0, 0⟩, rfl, no (by simp [mayID]; omega)⟩) fun e2 => ?_
  have hid : mayID id = true := by simp [mayID]; omega
  rw [hp, hid]
  refine ⟨p, (H2.box 0 rfl).cells0 _ rfl, (pre_Cols_spec p h2).mono ?_⟩
  rintro v h3 ⟨rfl, R3⟩
  have H3 := H2.comp R3
  have hpp := (mayP_iff p).1 hp
  have hc : colsP p = p.1 + p.2.1 := by rw [colsP, if_pos hp]
  obtain ⟨n, hn⟩ : ∃ n : Nat, colsP p = n := ⟨(colsP p).toNat, by omega⟩
  refine ⟨_, rfl, ?_⟩
  dsimp only
  rw [hn, Int.toNat_natCast]
  refine (draw_New_spec _ h3).mono ?_
  rintro v h4 ⟨d, rfl, R4⟩
  refine ⟨some d, rfl, ?_⟩
  refine (draw_Next_spec d _ h4 (R4.box 0 rfl)).mono ?_
  rintro v h5 ⟨rfl, hb5, hp5⟩
  have R5 := R4.boxStep 0 rfl hp5 hb5
  refine ⟨_, rfl, ?_⟩
  refine (table_spec n h5 (by omega) (by omega)).mono ?_
  rintro v h6 ⟨t, rfl, R6⟩
  have R56 := R5.comp R6
  refine ⟨t, rfl, ?_⟩
  have hnb : ∀ b, t.on b → b ≠ d.block := fun b hb he => by
    have h1 := (R6.fresh 0 rfl).2 b hb
    have h2 := (R5.box 0 rfl).lt
    omega
  refine (soliton_Draw_spec t n d _ h6 ((R6.own 0 rfl).seq (fun _ => rfl) hnb) (R56.box 0 rfl) (by omega) (by omega)).mono ?_
  rintro v h7 ⟨rfl, hb7, hp7⟩
  have R7 := R56.boxStep 0 rfl hp7 hb7
  refine ⟨_, rfl, ?_⟩
  refine (some_spec d _ n _ h7 (R7.box 0 rfl) (by omega) (degOf_le _ n (by omega) (by omega))).mono ?_
  rintro v h8 ⟨r, rfl, R8⟩
  have R := R7.call 0 rfl (fun b => b = d.block) (fun q hq b hb => by rw [hb]; exact hq.2) R8
  exact ⟨r, rfl, r, rfl, ((H3.comp R).take 3 (fun i A hi => by cases i with | zero => exact hi | succ i => simp at hi))⟩
end Go.Proofs.YtmadbodaleaaeaaGreat

namespace Go.Proofs.YtmadbodaleaaeaaGreat
open Go Go.Vc Go.Proofs Wl
set_option maxRecDepth 100000
theorem own_some {α : Type} {h : Heap} {e : TypeId} {s : Sl} {k : Nat} {f : α → List Value} {l : List α} (ho : Own h e s k f l) (hl : l ≠ []) : s.ptr.isNone = false := by
  rcases ho.head with ⟨_, _, h3⟩ | ⟨b, rest, h1, _⟩
  · exact absurd h3 hl
  · rw [h1]; rfl
theorem row_spec (p : Pm) (seed id : Int) (h : Heap) : Meets Tryz.prog lt_Row_id #[pmv p, .int .u32 seed, .int .i64 id] h fun v h' => ∃ r : Sl, v = .slice r.ptr r.len r.cap ∧
    Sp h h' [OwnA T_uint8 r 1 u8v (if mayP p && mayID id then rowI (colsP p).toNat seed id else [])] ∧ r.ptr.isNone = !(mayP p && mayID id) := by
  refine lt_Row_run p seed id ?_
  unfold lt_Row_m
  refine (Sp.refl h).boxed fun a h1 H1 => ?_
  refine join_in ?_
  refine ⟨p, (H1.box 0 rfl).cells0 _ rfl, (pre_May_spec p h1).mono ?_⟩
  rintro v h2 ⟨rfl, R2⟩
  have H2 := H1.comp R2
  have no : (mayP p && mayID id) = false → Sp h h2 [OwnA T_uint8 ⟨none, 0, 0⟩ 1 u8v (if mayP p && mayID id then rowI (colsP p).toNat seed id else [])] ∧ Option.isNone (none : Option Addr) = !(mayP p && mayID id) := fun hf => by
    rw [hf]; exact ⟨(H2.nil T_uint8 1 u8v).take 1 (fun i A hi => by cases i with | zero => exact hi | succ i => simp at hi), rfl⟩
  refine ⟨_, rfl, br_not (fun e => ⟨⟨none, 0, 0⟩, rfl, no (by rw [e]; rfl)⟩) fun hp => ?_⟩
  refine br_dec (fun e => ⟨⟨none, 0, 0⟩, rfl, no (by simp [mayID]; omega)⟩) fun e1 => ?_
  refine br_dec (fun e => ⟨⟨none, 0, 0⟩, rfl, no (by simp [mayID]; omega)⟩) fun e2 => ?_
  have hid : mayID id = true := by simp [mayID]; omega
  refine ⟨p, (H2.box 0 rfl).cells0 _ rfl, (pre_Cols_spec p h2).mono ?_⟩
  rintro v h3 ⟨rfl, R3⟩
  have H3 := H2.comp R3
  have hpp := (mayP_iff p).1 hp
  have hc : colsP p = p.1 + p.2.1 := by rw [colsP, if_pos hp]
  obtain ⟨n, hn⟩ : ∃ n : Nat, colsP p = n := ⟨(colsP p).toNat, by omega⟩
  refine ⟨_, rfl, ?_⟩
  dsimp only
  rw [hn]
  refine H3.make C_ok u8v eU8 (by decide) 0 rfl rfl n n rfl rfl (Nat.le_refl _) (by omega) fun v h4 hl hcp H4 => ?_
  refine ⟨p, (H4.box 0 rfl).cells0 _ rfl, (cols_spec p seed id h4).mono ?_⟩
  rintro w h5 ⟨c, rfl, R5⟩
  rw [hp, hid, hn, Int.toNat_natCast] at R5
  rw [hp, hid, Int.toNat_natCast]
  have H5 := H4.comp R5
  have hcs := H5.seq 2 rfl (fun _ => rfl)
  have hcl := hcs.len
  obtain ⟨cs, hcs'⟩ : ∃ cs, cs = colsI n seed id := ⟨_, rfl⟩
  have hin : ∀ x ∈ cs, 0 ≤ x ∧ x < (n : Int) := fun x hx => colsI_mem (by omega) (by omega) (by rw [← hcs']; exact hx)
  have hcl2 : cs.length ≤ n := by rw [hcs']; exact colsI_len (by omega) (by omega) _ _
  simp only [Bool.and_self, if_true, ← hcs'] at H5 hcs hcl R5
  refine ⟨c, rfl, ?_⟩
  refine loop_inv (fun i : Nat => (i : Int)) (fun i h' => i ≤ cs.length ∧ Sp h h' [BoxA a T_api_Params [.int .i64 p.1, .int .i64 p.2.1, .int .i64 p.2.2], OwnA T_uint8 v 1 u8v (onesI n (cs.take i)), OwnA T_int c 1 intv cs]) (fun i => cs.length - i) 0 rfl ⟨by omega, H5⟩ ?_
  rintro i h6 ⟨hi, H6⟩
  refine br_dec (fun e => ?_) (fun e => ?_)
  · have hi' : i < cs.length := by omega
    have hx := hin _ (List.getElem_mem hi')
    refine (H6.seq 2 rfl (fun _ => rfl)).get1 i rfl hi' _ rfl ?_
    refine H6.set C_ok 1 rfl (fun _ => rfl) rfl cs[i].toNat (by omega) (by rw [ones_len]; omega) 1 rfl rfl rfl fun h7 H7 => ?_
    refine ⟨i + 1, by rw [wrap_small _ (by omega) (by omega)]; rfl, ⟨by omega, ?_⟩, by omega⟩
    have e2 : onesI n (cs.take (i + 1)) = (onesI n (cs.take i)).set cs[i].toNat 1 := by rw [take_snoc _ _ hi', onesI, List.foldl_append]; rfl
    rw [e2]; exact H7
  · rw [List.take_of_length_le (by omega)] at H6
    have Hf : Sp h h6 [OwnA T_uint8 v 1 u8v (onesI n cs)] := (H6.del 2).take 1 (fun i A hi => by cases i with | zero => exact hi | succ i => simp at hi)
    refine ⟨v, rfl, ?_, own_some (Hf.own 0 rfl) (fun hh => ?_)⟩
    · rw [hcs'] at Hf; exact Hf
    · have := ones_len n cs; rw [hh] at this; simp at this; omega
theorem pre_Rows_spec (p : Pm) (h : Heap) : Meets Tryz.prog pre_Rows_id #[pmv p] h fun v h' => ∃ r : Sl, v = .slice r.ptr r.len r.cap ∧ Sp h h' [RowsA T_sl_uint8 r 1 u8v (if mayP p then aheadRows p.1.toNat p.2.1.toNat else [])] := by
  refine pre_Rows_run p ?_
  unfold pre_Rows_m
  refine (Sp.refl h).boxed fun a h1 H1 => ?_
  refine ⟨p, (H1.box 0 rfl).cells0 _ rfl, (pre_May_spec p h1).mono ?_⟩
  rintro v h2 ⟨rfl, R2⟩
  have H2 := H1.comp R2
  refine ⟨_, rfl, br_not (fun e => ⟨⟨none, 0, 0⟩, rfl, ?_⟩) fun hp => ?_⟩
  · rw [e]; exact (H2.rows0 T_sl_uint8 1 u8v).take 1 (fun i A hi => by cases i with | zero => exact hi | succ i => simp at hi)
  have hpp := (mayP_iff p).1 hp
  have hc : colsP p = p.1 + p.2.1 := by rw [colsP, if_pos hp]
  obtain ⟨K, hK⟩ : ∃ K : Nat, p.1 = K := ⟨p.1.toNat, by omega⟩
  obtain ⟨Hh, hH⟩ : ∃ H : Nat, p.2.1 = H := ⟨p.2.1.toNat, by omega⟩
  refine (gfNew_spec h2).mono ?_
  rintro v h3 ⟨f, rfl, R3⟩
  have H3 := (H2.comp R3).rows0 T_sl_uint8 1 u8v
  refine ⟨some f, rfl, _, (H3.box 0 rfl).cell rfl, ?_⟩
  refine loop_inv (fun t : Sl × Nat => (t.1, (t.2 : Int))) (fun t h' => t.2 ≤ Hh ∧ Sp h h' [BoxA a T_api_Params [.int .i64 p.1, .int .i64 p.2.1, .int .i64 p.2.2], BoxA f T_gf_Field fieldCells, RowsA T_sl_uint8 t.1 1 u8v ((aheadRows K Hh).take t.2)]) (fun t => Hh - t.2) (⟨none, 0, 0⟩, 0) rfl ⟨by simp, H3⟩ ?_
  rintro ⟨s, k⟩ h4 ⟨hk, H4⟩
  dsimp only at *
  refine br_dec (fun e => ?_) (fun e => ?_)
  · have hk' : k < Hh := by omega
    refine join_in ⟨p, (H4.box 0 rfl).cells0 _ rfl, p.1, (H4.box 0 rfl).cell0 rfl, ?_⟩
    refine (pre_Cols_spec p h4).mono ?_
    rintro v h5 ⟨rfl, R5⟩
    have H5 := H4.comp R5
    refine ⟨_, rfl, ⟨(H5.box 0 rfl).cell0 rfl, trivial⟩, ?_⟩
    dsimp only
    rw [wrap_small (p.1 + k) (by omega) (by omega), hc]
    refine (unit_spec _ _ h5).mono ?_
    rintro v h6 ⟨u, rfl, R6⟩
    rw [if_pos (by omega)] at R6
    have e1 : (p.1 + p.2.1).toNat = K + Hh := by omega
    have e2 : (p.1 + (k : Int)).toNat = K + k := by omega
    rw [e1, e2] at R6
    have H6 := H5.comp R6
    refine ⟨u, rfl, ⟨(H6.box 0 rfl).cell0 rfl, trivial⟩, p.1, (H6.box 0 rfl).cell0 rfl, ?_⟩
    let rowAt : Nat → List UInt8 := fun j => (List.range j).map (fun i => Gf.pw ((k + 1) * (i + 1) % 255)) ++ ((List.replicate (K + Hh) (0 : UInt8)).set (K + k) 1).drop j
    refine loop_inv (fun j : Nat => (j : Int)) (fun j h' => j ≤ K ∧ Sp h h' [BoxA a T_api_Params [.int .i64 p.1, .int .i64 p.2.1, .int .i64 p.2.2], BoxA f T_gf_Field fieldCells, RowsA T_sl_uint8 s 1 u8v ((aheadRows K Hh).take k), OwnA T_uint8 u 1 u8v (rowAt j)]) (fun j => K - j) 0 rfl ⟨by omega, H6⟩ ?_
    rintro j h7 ⟨hj, H7⟩
    refine br_dec (fun e3 => ?_) (fun e3 => ?_)
    · have hj' : j < K := by omega
      have hm : (k + 1) * (j + 1) ≤ 4 * 16 := Nat.mul_le_mul (by omega) (by omega)
      have e4 : IntKind.wrap .i64 (IntKind.wrap .i64 ((k : Int) + 1) * IntKind.wrap .i64 ((j : Int) + 1)) = (((k + 1) * (j + 1) : Nat) : Int) := by
        rw [wrap_small ((k : Int) + 1) (by omega) (by omega), wrap_small ((j : Int) + 1) (by omega) (by omega), show ((k : Int) + 1) * ((j : Int) + 1) = (((k + 1) * (j + 1) : Nat) : Int) by rw [Int.natCast_mul]; rfl]
        exact i64_of_nat _ (by omega)
      rw [e4]
      refine (exp_spec f _ h7 (H7.box 1 rfl)).mono ?_
      rintro v h8 ⟨rfl, rfl⟩
      refine ⟨_, rfl, ?_⟩
      have hlen : (rowAt j).length = K + Hh := by simp [rowAt]; omega
      refine H7.set C_ok 3 rfl (fun _ => rfl) rfl j rfl (by omega) _ rfl rfl rfl fun h9 H9 => ?_
      refine ⟨j + 1, by rw [wrap_small _ (by omega) (by omega)]; rfl, ⟨by omega, ?_⟩, by omega⟩
      have e5 : (rowAt j).set j (Gf.pw ((((k + 1) * (j + 1) : Nat) : Int) % 255).toNat) = rowAt (j + 1) := by
        have e6 : ((((k + 1) * (j + 1) : Nat) : Int) % 255).toNat = (k + 1) * (j + 1) % 255 := by omega
        rw [e6]
        simp only [rowAt]
        rw [List.set_append_right _ _ (by simp), List.length_map, List.length_range, Nat.sub_self, List.drop_eq_getElem_cons (by simp; omega), List.set_cons_zero, List.range_succ, List.map_append, List.append_assoc]
        rfl
      rw [← e5]; exact H9
    · have hj' : j = K := by omega
      subst hj'
      have e5 : rowAt j = aheadRow j Hh k := by
        simp only [rowAt, aheadRow]
        congr 1
        apply List.ext_getElem?
        intro i
        rw [List.getElem?_drop, List.getElem?_set, List.getElem?_map]
        by_cases hi : i < Hh
        · rw [List.getElem?_range hi, Option.map_some, List.getElem?_replicate]
          by_cases hik : i = k
          · subst hik; simp [hi]
          · rw [if_neg (by omega), if_pos (by omega), if_neg hik]
        · rw [List.getElem?_eq_none (l := List.range Hh) (by simp; omega), if_neg (by omega), List.getElem?_replicate, if_neg (by omega)]; rfl
      rw [e5] at H7
      have H8 := H7.freeze 3 rfl (fun _ => rfl)
      have hll : ((aheadRows j Hh).take k).length = k := by simp [aheadRows]; omega
      refine H8.rowPush C_ok 2 3 (by decide) rfl rfl eSlU8 (by omega) fun s' h9 H9 => ?_
      refine ⟨(s', k + 1), by dsimp only; rw [wrap_small _ (by omega) (by omega)]; rfl, ⟨by dsimp only; omega, ?_⟩, by dsimp only; omega⟩
      have e7 : (aheadRows j Hh).take (k + 1) = (aheadRows j Hh).take k ++ [aheadRow j Hh k] := by
        rw [take_snoc _ _ (by simp [aheadRows]; omega)]; simp [aheadRows]
      dsimp only
      rw [e7]
      exact H9.del 3
  · refine ⟨s, rfl, ?_⟩
    rw [if_pos hp, hK, hH, Int.toNat_natCast, Int.toNat_natCast]
    rw [List.take_of_length_le (by simp [aheadRows]; omega)] at H4
    exact H4.take 2 (fun i A hi => by cases i with | zero => exact hi | succ i => simp at hi)
end Go.Proofs.YtmadbodaleaaeaaGreat

namespace Go.Proofs.YtmadbodaleaaeaaGreat
open Go Go.Vc Go.Proofs Wl
set_option maxRecDepth 100000
theorem first_spec (p : Pm) (h : Heap) : Meets Tryz.prog system_First_id #[pmv p] h fun v h' => ∃ r : Sl, v = .slice r.ptr r.len r.cap ∧ Sp h h' [OwnA T_int r 1 intv (upto (max 0 (min p.1 16)).toNat)] := by
  refine system_First_run p ?_
  unfold system_First_m
  refine (Sp.refl h).boxed fun a h1 H1 => ?_
  refine ⟨p.1, (H1.box 0 rfl).cell0 rfl, ?_⟩
  have em : (if (if (16 : Int) < p.1 then (16 : Int) else p.1) > (0 : Int) then (if (16 : Int) < p.1 then (16 : Int) else p.1) else (0 : Int)) = ((max 0 (min p.1 16)).toNat : Int) := by
    split <;> split <;> omega
  rw [em]
  generalize hN : (max 0 (min p.1 16)).toNat = N
  have hN16 : N ≤ 16 := by omega
  refine loop_inv (fun t : Sl × Nat => (t.1, (t.2 : Int))) (fun t h' => t.2 ≤ N ∧ Sp h h' [emp, OwnA T_int t.1 1 intv (upto t.2)]) (fun t => N - t.2) (⟨none, 0, 0⟩, 0) rfl ⟨by simp, (H1.weak 0 rfl fun _ _ => trivial).nil T_int 1 intv⟩ ?_
  rintro ⟨s, k⟩ h2 ⟨hk, H2⟩
  dsimp only at *
  refine br_dec (fun e => ?_) (fun e => ?_)
  · refine H2.push C_ok 1 rfl eInt rfl (by decide) (fun _ => rfl) one_int (k : Int) rfl (by decide) (by rw [upto_len]; omega) fun s' h3 H3 => ?_
    refine ⟨(s', k + 1), by dsimp only; rw [wrap_small _ (by omega) (by omega)]; rfl, ⟨by dsimp only; omega, ?_⟩, by dsimp only; omega⟩
    have e2 : upto (k + 1) = upto k ++ [(k : Int)] := by simp [upto, List.range_succ]
    dsimp only; rw [e2]; exact H3
  · have : k = N := by omega
    subst this
    exact ⟨s, rfl, H2.take 1 (fun i A hi => by cases i with | zero => exact hi | succ i => simp at hi)⟩
theorem matrix_spec (p : Pm) (seed : Int) (ids : Sl) (l : List Int) (h : Heap) (hl : Rd h ids 1 intv l) (hsz : l.length ≤ 2 ^ 30) : Meets Tryz.prog system_Matrix_id #[pmv p, .int .u32 seed, .slice ids.ptr ids.len ids.cap] h fun v h' => ∃ r : Sl, v = .slice r.ptr r.len r.cap ∧ Sp h h' [RowsA T_sl_uint8 r 1 u8v (matI p seed l)] := by
  refine system_Matrix_run p seed ids ?_
  unfold system_Matrix_m
  refine (Sp.refl h).boxed fun a h1 H1 => ?_
  refine ⟨p, (H1.box 0 rfl).cells0 _ rfl, (pre_Rows_spec p h1).mono ?_⟩
  rintro v h2 ⟨r, rfl, R2⟩
  have H2 := H1.comp R2
  refine ⟨r, rfl, ?_⟩
  have hlen := hl.len
  let at_ : Nat → List (List UInt8) := fun k => matI p seed (l.take k)
  have h0 : (if mayP p then aheadRows p.1.toNat p.2.1.toNat else []) = at_ 0 := by simp [at_, matI]
  rw [h0] at H2
  refine loop_inv (fun t : Sl × Nat => (t.1, (t.2 : Int))) (fun t h' => t.2 ≤ l.length ∧ Sp h h' [BoxA a T_api_Params [.int .i64 p.1, .int .i64 p.2.1, .int .i64 p.2.2], RowsA T_sl_uint8 t.1 1 u8v (at_ t.2)]) (fun t => l.length - t.2) (r, 0) rfl ⟨by simp, H2⟩ ?_
  rintro ⟨s, k⟩ h3 ⟨hk, H3⟩
  dsimp only at *
  refine br_dec (fun e => ?_) (fun e => ?_)
  · have hk' : k < l.length := by omega
    refine (Seq.up hl H3.pres).get1 k rfl hk' _ rfl ?_
    refine ⟨p, (H3.box 0 rfl).cells0 _ rfl, (row_spec p seed l[k] h3).mono ?_⟩
    rintro v h4 ⟨w, rfl, R4, hnil⟩
    have H4 := (H3.comp R4).freeze 2 rfl (fun _ => rfl)
    refine ⟨w, rfl, ?_⟩
    have hat : (at_ k).length ≤ 4 + k ∨ at_ k = [] := by
      by_cases hp : mayP p
      · left
        have := (mayP_iff p).1 hp
        have h1 := List.length_filter_le mayID (l.take k)
        have h2 := List.length_take_le k l
        simp only [at_, matI, hp, if_true, List.length_append, List.length_map, aheadRows, List.length_range]
        omega
      · right; simp [at_, matI, hp]
    have hat' : (at_ k).length + 1 ≤ 2 ^ 32 := by rcases hat with h | h
                                                  · omega
                                                  · rw [h]; simp
    dsimp only
    refine br_not (fun e2 => ?_) (fun e2 => ?_)
    · rw [hnil] at e2
      have hok : (mayP p && mayID l[k]) = true := by simpa using e2
      rw [hok, if_pos rfl] at H4
      refine H4.rowPush C_ok 1 2 (by decide) rfl rfl eSlU8 hat' fun s' h5 H5 => ?_
      refine ⟨(s', k + 1), by dsimp only; rw [wrap_small _ (by omega) (by omega)]; rfl, ⟨by dsimp only; omega, ?_⟩, by dsimp only; omega⟩
      rw [Bool.and_eq_true] at hok
      have e7 : at_ (k + 1) = at_ k ++ [rowI (colsP p).toNat seed l[k]] := by
        simp only [at_, matI, hok.1, if_true]
        rw [filter_take_snoc hk', if_pos hok.2, List.map_append, List.append_assoc]; rfl
      dsimp only
      rw [e7]; exact H5.del 2
    · rw [hnil] at e2
      have hok : (mayP p && mayID l[k]) = false := by
        cases hh : (mayP p && mayID l[k]) with
        | false => rfl
        | true => rw [hh] at e2; cases e2
      refine ⟨(s, k + 1), by dsimp only; rw [wrap_small _ (by omega) (by omega)]; rfl, ⟨by dsimp only; omega, ?_⟩, by dsimp only; omega⟩
      have e7 : at_ (k + 1) = at_ k := by
        simp only [at_, matI]
        rw [Bool.and_eq_false_iff] at hok
        rcases hok with h | h
        · simp [h]
        · have hf : (l.take (k + 1)).filter mayID = (l.take k).filter mayID := by rw [filter_take_snoc hk', if_neg (by simp [h])]
          rw [hf]
      dsimp only
      rw [e7]; exact H4.del 2
  · refine ⟨s, rfl, ?_⟩
    have e7 : at_ k = matI p seed l := by simp only [at_]; rw [List.take_of_length_le (by omega)]
    rw [e7] at H3
    exact H3.take 1 (fun i A hi => by cases i with | zero => exact hi | succ i => simp at hi)
/-! ### Matrices -/
theorem mat_May_spec (a : Sl) (m : Mat) (n : Nat) (h : Heap) (ha : Rd2 h a 1 u8v m) (hm : evenB n m) (hn : n ≤ 64) (hs : m.length ≤ 2 ^ 30) : Meets Tryz.prog mat_May_id #[.slice a.ptr a.len a.cap] h fun v h' => v = .bool true ∧ h' = h := by
  refine mat_May_run a ?_
  unfold mat_May_m
  have hl := ha.len
  refine loop_inv (fun k : Nat => (k : Int)) (fun k h' => h' = h ∧ k ≤ m.length) (fun k => m.length - k) 0 rfl ⟨rfl, by omega⟩ ?_
  rintro k h' ⟨rfl, hk⟩
  refine br_dec (fun e => ?_) (fun e => ⟨rfl, rfl⟩)
  have hk' : k < m.length := by omega
  refine ha.get k rfl hk' fun r hr => ?_
  refine ha.get 0 rfl (by omega) fun r0 hr0 => ?_
  have h1 := hr.len; have h2 := hr0.len
  rw [hm _ (List.getElem_mem _)] at h1 h2
  refine br_ne (fun e => by omega) fun _ => br_dec (fun e => by omega) fun _ => ?_
  exact ⟨k + 1, by rw [wrap_small _ (by omega) (by omega)]; rfl, ⟨rfl, by omega⟩, by omega⟩
theorem mat_own_spec (a : Sl) (m : Mat) (n : Nat) (h : Heap) (ha : Rd2 h a 1 u8v m) (hm : evenB n m) (hn : n ≤ 64) (hs : m.length ≤ 2 ^ 30) : Meets Tryz.prog mat_own_id #[.slice a.ptr a.len a.cap] h fun v h' => ∃ (r : Sl) (rs : List Sl), v = .slice r.ptr r.len r.cap ∧ rs.length = m.length ∧ Sp h h' (OwnA T_sl_uint8 r 1 slv rs :: ownRows T_uint8 1 u8v rs m) := by
  refine mat_own_run a ?_
  unfold mat_own_m
  have hl := ha.len
  refine (Sp.refl h).make C_ok slv eSlU8 (by decide) ⟨none, 0, 0⟩ rfl rfl 0 m.length rfl (by omega) (by omega) (by omega) fun s h1 hsl hc H1 => ?_
  refine loop_inv (fun t : Sl × List Sl => (t.1, (t.2.length : Int))) (fun t h' => t.2.length ≤ m.length ∧ Sp h h' (OwnA T_sl_uint8 t.1 1 slv t.2 :: ownRows T_uint8 1 u8v t.2 (m.take t.2.length))) (fun t => m.length - t.2.length) (s, []) rfl ⟨by simp, by simpa [ownRows] using H1⟩ ?_
  rintro ⟨s, rs⟩ h2 ⟨hk, H2⟩
  dsimp only at *
  refine br_dec (fun e => ?_) (fun e => ?_)
  · have hk' : rs.length < m.length := by omega
    refine (ha.up H2.pres).get rs.length rfl hk' fun r hr => ?_
    have hrl : m[rs.length].length = n := hm _ (List.getElem_mem _)
    refine (cloneB_spec r _ h2 hr (by omega)).mono ?_
    rintro v h3 ⟨w, rfl, R3⟩
    have H3 := H2.comp R3
    refine ⟨w, rfl, ?_⟩
    refine H3.push C_ok 0 rfl eSlU8 rfl (by decide) (fun _ => rfl) one_sl w rfl (by decide) (by omega) fun s' h4 H4 => ?_
    refine ⟨(s', rs ++ [w]), by dsimp only; rw [wrap_small _ (by omega) (by omega)]; simp, ⟨by simp; omega, ?_⟩, by simp; omega⟩
    dsimp only
    rw [show (rs ++ [w]).length = rs.length + 1 by simp, take_snoc _ _ hk', ownRows_snoc (by rw [List.length_take]; omega)]
    exact H4
  · have e2 : m.take rs.length = m := List.take_of_length_le (by omega)
    rw [e2] at H2
    exact ⟨s, rs, rfl, by omega, H2⟩
theorem mat_width_spec (a : Sl) (m : Mat) (h : Heap) (ha : Rd2 h a 1 u8v m) : Meets Tryz.prog mat_width_id #[.slice a.ptr a.len a.cap] h fun v h' => v = .int .i64 (widthB m) ∧ h' = h := by
  refine mat_width_run a ?_
  unfold mat_width_m
  have hl := ha.len
  refine br_eq (fun e => ?_) (fun e => ?_)
  · have : m = [] := List.eq_nil_of_length_eq_zero (by omega)
    subst this
    exact ⟨rfl, rfl⟩
  · refine ha.get 0 rfl (by omega) fun r hr => ⟨?_, rfl⟩
    rw [hr.len, widthB, row_lt (by omega)]
theorem col_lt {r : Row} {c : Nat} (h : c < r.length) : colB r c = r[c] := by rw [colB, List.getD_eq_getElem?_getD, List.getElem?_eq_getElem h]; rfl
theorem begins_spec (a : Sl) (m : Mat) (n top col : Nat) (h : Heap) (ha : Rd2 h a 1 u8v m) (hm : evenB n m) (hc : col < n) (hs : m.length ≤ 2 ^ 30) :
    Meets Tryz.prog mat_begins_id #[.slice a.ptr a.len a.cap, .int .i64 top, .int .i64 col] h fun v h' => v = .int .i64 (match beginsB m top col with | some i => (i : Int) | none => -1) ∧ h' = h := by
  refine mat_begins_run a top col ?_
  unfold mat_begins_m
  have hl := ha.len
  refine loop_inv (fun k : Nat => (k : Int)) (fun k h' => h' = h ∧ top ≤ k ∧ k ≤ max top m.length ∧ ∀ j, j < k → (decide (top ≤ j) && (colB (rowB m j) col != 0)) = false) (fun k => m.length - k) top rfl ⟨rfl, by omega, by omega, fun j hj => by rw [decide_eq_false (by omega)]; rfl⟩ ?_
  rintro k h' ⟨rfl, hk1, hk2, hj⟩
  refine br_dec (fun e => ?_) (fun e => ?_)
  · rw [beginsB, find_none' (fun j hj' => hj j (by omega))]; exact ⟨rfl, rfl⟩
  · have hk' : k < m.length := by omega
    have hrl : m[k].length = n := hm _ (List.getElem_mem _)
    refine ha.get k rfl hk' fun r hr => ?_
    refine hr.get1 col rfl (by omega) _ rfl ?_
    have hcell : colB (rowB m k) col = m[k][col]'(by omega) := by rw [row_lt hk', col_lt (by omega)]
    refine br_ne (fun e2 => ?_) (fun e2 => ?_)
    · have hne : (decide (top ≤ k) && (colB (rowB m k) col != 0)) = true := by
        rw [decide_eq_true hk1, hcell]; simp; exact fun h0 => e2 (by rw [h0]; rfl)
      rw [beginsB, find_some' hk' hj hne]; exact ⟨rfl, rfl⟩
    · refine ⟨k + 1, by rw [wrap_small _ (by omega) (by omega)]; rfl, ⟨rfl, by omega, by omega, fun j hj' => ?_⟩, by omega⟩
      rcases Nat.lt_succ_iff_lt_or_eq.1 hj' with h1 | rfl
      · exact hj j h1
      · rw [hcell, nat0.1 e2]; simp
theorem scale_spec (f : Addr) (c : UInt8) (a : Sl) (l : Row) (h : Heap) (hf : FieldB h f) (ha : Rd h a 1 u8v l) (hs : l.length ≤ 2 ^ 30) : Meets Tryz.prog row_Scale_id #[.pointer (some f), .int .u8 c.toNat, .slice a.ptr a.len a.cap] h fun v h' => ∃ r : Sl, v = .slice r.ptr r.len r.cap ∧ Sp h h' [OwnA T_uint8 r 1 u8v (scaleB c l)] := by
  refine row_Scale_run (some f) _ a ?_
  unfold row_Scale_m
  have hl := ha.len
  refine (row_sure_spec f h).mono ?_
  rintro v h1 ⟨rfl, rfl⟩
  refine ⟨some f, rfl, ?_⟩
  refine (Sp.refl h1).make C_ok u8v eU8 (by decide) 0 rfl rfl l.length l.length (by omega) (by omega) (Nat.le_refl _) (by omega) fun s h2 hsl hc H2 => ?_
  refine loop_inv (fun k : Nat => (k : Int)) (fun k h' => k ≤ l.length ∧ Sp h1 h' [OwnA T_uint8 s 1 u8v ((l.take k).map (Gf.mul c) ++ List.replicate (l.length - k) 0)]) (fun k => l.length - k) 0 rfl ⟨by omega, by simpa using H2⟩ ?_
  rintro k h3 ⟨hk, H3⟩
  refine br_dec (fun e => ?_) (fun e => ?_)
  · have hk' : k < l.length := by omega
    refine (Seq.up ha H3.pres).get1 k rfl hk' _ rfl ?_
    refine (mul_spec f c l[k] h3 (hf.pres H3.pres hf.lt)).mono ?_
    rintro v h4 ⟨rfl, rfl⟩
    refine ⟨_, rfl, ?_⟩
    refine H3.set C_ok 0 rfl (fun _ => rfl) rfl k rfl (by simp; omega) _ rfl rfl rfl fun h5 H5 => ?_
    refine ⟨k + 1, by rw [wrap_small _ (by omega) (by omega)]; rfl, ⟨by omega, ?_⟩, by omega⟩
    have hlk : ((l.take k).map (Gf.mul c)).length = k := by simp; omega
    have e2 : ((l.take k).map (Gf.mul c) ++ List.replicate (l.length - k) 0).set k (Gf.mul c l[k]) = (l.take (k + 1)).map (Gf.mul c) ++ List.replicate (l.length - (k + 1)) 0 := by
      rw [List.set_append_right _ _ (by omega), hlk, Nat.sub_self, show l.length - k = l.length - (k + 1) + 1 by omega, List.replicate_succ, List.set_cons_zero, take_snoc _ _ hk', List.map_append, List.append_assoc]; rfl
    rw [← e2]; exact H5
  · have : k = l.length := by omega
    subst this
    refine ⟨s, rfl, ?_⟩
    rw [List.take_of_length_le (Nat.le_refl _), Nat.sub_self, List.replicate_zero, List.append_nil] at H3
    exact H3
theorem zip_take_set {c : UInt8} {a t : Row} (hat : a.length = t.length) {k : Nat} (hk : k < t.length) : (List.zipWith (fun x y => y ^^^ Gf.mul c x) (a.take k) (t.take k) ++ t.drop k).set k (t[k] ^^^ Gf.mul c (a[k]'(by omega))) = List.zipWith (fun x y => y ^^^ Gf.mul c x) (a.take (k + 1)) (t.take (k + 1)) ++ t.drop (k + 1) := by
  have hl : (List.zipWith (fun x y => y ^^^ Gf.mul c x) (a.take k) (t.take k)).length = k := by simp; omega
  rw [List.set_append_right _ _ (by omega), hl, Nat.sub_self, List.drop_eq_getElem_cons hk, List.set_cons_zero, take_snoc _ _ hk, take_snoc _ _ (show k < a.length by omega), List.zipWith_append (by simp; omega)]
  simp
theorem add_spec (f : Addr) (c : UInt8) (a to : Sl) (la lt : Row) (h : Heap) (hf : FieldB h f) (hfo : ¬ to.on f.block) (ha : Seq h (fun b => ¬ to.on b) a 1 u8v la) (ht : Own h T_uint8 to 1 u8v lt) (hat : la.length = lt.length) (hs : la.length ≤ 2 ^ 30) :
    Meets Tryz.prog mat_add_id #[.pointer (some f), .int .u8 c.toNat, .slice a.ptr a.len a.cap, .slice to.ptr to.len to.cap] h fun v h' => v = .tuple #[] ∧ Own h' T_uint8 to 1 u8v (addB c la lt) ∧ Pres (fun b => ¬ to.on b) h h' := by
  refine mat_add_run (some f) _ a to ?_
  unfold mat_add_m
  have hl := ha.len; have htl := ht.len
  refine br_eq (fun e => ?_) (fun _ => ?_)
  · have hc : c = 0 := nat0.1 e
    subst hc
    have : addB 0 la lt = lt := by
      apply List.ext_getElem (by rw [add_len hat])
      intro i h1 h2
      simp [addB, Gf.zero_mul]
    exact ⟨rfl, by rw [this]; exact ht, Pres.refl _ _⟩
  · refine loop_inv (fun k : Nat => (k : Int)) (fun k h' => k ≤ la.length ∧ Own h' T_uint8 to 1 u8v (List.zipWith (fun x y => y ^^^ Gf.mul c x) (la.take k) (lt.take k) ++ lt.drop k) ∧ Pres (fun b => ¬ to.on b) h h') (fun k => la.length - k) 0 rfl ⟨by omega, by simpa using ht, Pres.refl _ _⟩ ?_
    rintro k h1 ⟨hk, ho1, hp1⟩
    refine br_dec (fun e => ?_) (fun e => ?_)
    · have hk' : k < la.length := by omega
      have hkt : k < lt.length := by omega
      have hzl : (List.zipWith (fun x y => y ^^^ Gf.mul c x) (la.take k) (lt.take k)).length = k := by simp; omega
      have hll : (List.zipWith (fun x y => y ^^^ Gf.mul c x) (la.take k) (lt.take k) ++ lt.drop k).length = lt.length := by rw [List.length_append, hzl, List.length_drop]; omega
      refine (ha.pres hp1).get1 k rfl hk' _ rfl ?_
      have hval : (List.zipWith (fun x y => y ^^^ Gf.mul c x) (la.take k) (lt.take k) ++ lt.drop k)[k]'(by omega) = lt[k] := by
        rw [List.getElem_append_right (by omega)]; simp [hzl]
      refine (ho1.seq (p := fun _ => True) (fun _ => rfl) fun _ _ => trivial).get1A k rfl (by omega) _ rfl fun ax hax => ?_
      rw [hval] at hax ⊢
      refine (mul_spec f c la[k] h1 (hf.pres hp1 hfo)).mono ?_
      rintro v h2 ⟨rfl, rfl⟩
      refine ⟨_, rfl, ⟨hax, trivial⟩, ?_⟩
      dsimp only
      rw [xor_u8]
      refine ho1.set C_ok (fun _ => rfl) rfl k rfl (by omega) _ rfl rfl rfl fun h3 ho3 hp3 _ => ⟨trivial, ?_⟩
      refine ⟨k + 1, by rw [wrap_small _ (by omega) (by omega)]; rfl, ⟨by omega, ?_, hp1.trans hp3⟩, by omega⟩
      rw [← zip_take_set hat hkt]; exact ho3
    · have : k = la.length := by omega
      subst this
      rw [List.take_of_length_le (Nat.le_refl _), List.take_of_length_le (by omega), List.drop_of_length_le (by omega), List.append_nil] at ho1
      exact ⟨rfl, ho1, hp1⟩
end Go.Proofs.YtmadbodaleaaeaaGreat

namespace Go.Proofs.YtmadbodaleaaeaaGreat
open Go Go.Vc Go.Proofs Wl
set_option maxRecDepth 100000
abbrev matA (a : Sl) (rs : List Sl) (m : Mat) : List HP := OwnA T_sl_uint8 a 1 slv rs :: ownRows T_uint8 1 u8v rs m
theorem mat_row {a : Sl} {rs : List Sl} {m : Mat} (hl : rs.length = m.length) (i : Nat) (hi : i < m.length) : (matA a rs m)[i + 1]? = some (OwnA T_uint8 (rs[i]'(by omega)) 1 u8v m[i]) := by
  rw [List.getElem?_cons_succ]; exact ownRows_get hl i hi
theorem held_up {h h' : Heap} {a : Addr} {v : Value} (hc : cellOf h a = some v) (hp : Pres (fun b => b < h.size) h h') : cellOf h' a = some v := hp.cell (lt_of_cell hc) hc
theorem elim_loop {B : Blocks} {h0 : Heap} {f : Addr} (hf0 : FieldB h0 f) (hfB : B f.block) {a : Sl} {n top col : Nat} {rs : List Sl} {m : Mat} (hl : rs.length = m.length) (hm : evenB n m) (hc : col < n) (hn : n ≤ 64) (ht : top < m.length) (hs : m.length ≤ 2 ^ 30)
    {h : Heap} (H : SpB B h0 h (matA a rs m)) {K : Heap → Prop} (hk : ∀ h', SpB B h0 h' (matA a rs (elimB top col m m.length)) → K h') :
  LoopM (σ := Int) (fun s20 K4 h10 =>
  Br (decide (s20 < ((a.len : Nat) : Int)))
  (Br (s20 != (top : Int))
  (∃ a21 : Addr, (a.ptr = some a21 ∧ 0 ≤ s20 ∧ s20 < ((a.len : Nat) : Int)) ∧
  ∃ x22 : Sl, cellOf h10 (a21.add (s20.toNat * 1)) = some (.slice x22.ptr x22.len x22.cap) ∧
  ∃ a23 : Addr, (x22.ptr = some a23 ∧ 0 ≤ (col : Int) ∧ (col : Int) < ((x22.len : Nat) : Int)) ∧
  ∃ x24 : Int, cellOf h10 (a23.add ((col : Int).toNat * 1)) = some (.int .u8 x24) ∧
  ∃ a25 : Addr, (a.ptr = some a25 ∧ 0 ≤ (top : Int) ∧ (top : Int) < ((a.len : Nat) : Int)) ∧
  ∃ x26 : Sl, cellOf h10 (a25.add ((top : Int).toNat * 1)) = some (.slice x26.ptr x26.len x26.cap) ∧
  ∃ a27 : Addr, (a.ptr = some a27 ∧ 0 ≤ s20 ∧ s20 < ((a.len : Nat) : Int)) ∧
  ∃ x28 : Sl, cellOf h10 (a27.add (s20.toNat * 1)) = some (.slice x28.ptr x28.len x28.cap) ∧
  CallM Tryz.prog mat_add_id #[(.pointer (some f)), (.int .u8 x24), (.slice x26.ptr x26.len x26.cap), (.slice x28.ptr x28.len x28.cap)] (.many []) h10 fun _ h11 =>
  (Held.ok [(a21.add (s20.toNat * 1), (.slice x22.ptr x22.len x22.cap))] h11) ∧
  K4 (IntKind.wrap .i64 (s20 + (1 : Int))) h11)
  (K4 (IntKind.wrap .i64 (s20 + (1 : Int))) h10))
  (K h10)) (0 : Int) h := by
  have hal : a.len = m.length := by rw [(H.own 0 rfl).len, hl]
  refine loop_inv (fun k : Nat => (k : Int)) (fun k h' => k ≤ m.length ∧ SpB B h0 h' (matA a rs (elimB top col m k))) (fun k => m.length - k) 0 rfl ⟨by omega, by rw [elim_zero]; exact H⟩ ?_
  rintro k h1 ⟨hk1, H1⟩
  have hel := elim_len top col m k
  have hle : rs.length = (elimB top col m k).length := by rw [hel]; exact hl
  refine br_dec (fun e => ?_) (fun e => ?_)
  · have hk' : k < m.length := by omega
    refine br_ne (fun e2 => ?_) (fun e2 => ?_)
    · have hkt : k ≠ top := fun hh => e2 (by rw [hh])
      have hrk : rowB (elimB top col m k) k = rowB m k := by rw [elim_row hk', if_neg (by omega)]
      have hrt : rowB (elimB top col m k) top = rowB m top := by rw [elim_row ht, if_neg (by omega)]
      have e4 : (elimB top col m k)[k]'(by omega) = rowB m k := by rw [← hrk, row_lt]
      have e5 : (elimB top col m k)[top]'(by omega) = rowB m top := by rw [← hrt, row_lt]
      have gk := mat_row (a := a) hle k (by omega)
      have gt := mat_row (a := a) hle top (by omega)
      rw [e4] at gk
      rw [e5] at gt
      have lk := even_row hm hk'
      have lt := even_row hm ht
      have hoff := H1.off (k + 1) 0 (by omega) gk rfl
      have hs1 := hoff.1.seq (fun _ => rfl) hoff.2
      refine hs1.getS k rfl (by omega) fun a1 ha1 hb1 => ?_
      have hrd := H1.seq (k + 1) gk (fun _ => rfl)
      refine hrd.get1 col rfl (by omega) _ rfl ?_
      refine hs1.getS top rfl (by omega) fun _ _ _ => ?_
      refine hs1.getS k rfl (by omega) fun _ _ _ => ?_
      have hrt2 : (SeqA (rs[top]'(by omega)) 1 u8v (rowB m top)).p h1 (fun b => ¬ (rs[k]'(by omega)).on b) := by
        have := H1.off (k + 1) (top + 1) (by omega) gk gt
        exact (this.1.seq (fun _ => rfl) this.2).mono fun b hb => hb.2
      refine (add_spec f _ _ _ (rowB m top) (rowB m k) h1 (hf0.pres H1.pres hfB) (H1.base (k + 1) gk hfB) hrt2 (H1.own (k + 1) gk) (by omega) (by omega)).mono ?_
      rintro v h2 ⟨rfl, ho2, hp2⟩
      have H2 := H1.ownStep (k + 1) gk hp2 ho2
      have ha2 := hp2.cell hb1.2 ha1
      refine ⟨(), rfl, ⟨ha2, trivial⟩, ?_⟩
      refine ⟨k + 1, by rw [wrap_small _ (by omega) (by omega)]; rfl, ⟨by omega, ?_⟩, by omega⟩
      rw [elim_succ hk' hkt]
      show SpB B h0 h2 (OwnA T_sl_uint8 a 1 slv rs :: ownRows T_uint8 1 u8v rs ((elimB top col m k).set k _))
      rw [← ownRows_set' hle k (by omega)]
      have hcol : (rowB m k)[col]'(by omega) = colB (rowB m k) col := (col_lt (by omega)).symm
      rw [hcol] at H2
      exact H2
    · have hkt : k = top := by omega
      subst hkt
      exact ⟨k + 1, by rw [wrap_small _ (by omega) (by omega)]; rfl, ⟨by omega, by rw [elim_skip]; exact H1⟩, by omega⟩
  · have : k = m.length := by omega
    subst this
    exact hk _ H1
theorem ownRows_swap {rs : List Sl} {m : Mat} (hl : rs.length = m.length) (i j : Nat) (hi : i < m.length) (hj : j < m.length) :
    ((ownRows T_uint8 1 u8v rs m).set i (OwnA T_uint8 (rs[j]'(by omega)) 1 u8v m[j])).set j (OwnA T_uint8 (rs[i]'(by omega)) 1 u8v m[i]) = ownRows T_uint8 1 u8v ((rs.set i (rs[j]'(by omega))).set j (rs[i]'(by omega))) (swapB m i j) := by
  rw [ownRows_set hl, ownRows_set (by simpa using hl), swapB, row_lt hi, row_lt hj]
theorem reduce_spec {B : Blocks} {h0 : Heap} {f : Addr} (hf0 : FieldB h0 f) (hfB : B f.block) {a : Sl} {n cols : Nat} {rs : List Sl} {m : Mat} (hl : rs.length = m.length) (hm : evenB n m) (hc : cols ≤ n) (hn : n ≤ 64) (hs : m.length ≤ 2 ^ 30)
    {h : Heap} (H : SpB B h0 h (matA a rs m)) : Meets Tryz.prog mat_reduce_id #[.pointer (some f), .slice a.ptr a.len a.cap, .int .i64 cols] h fun v h' =>
      ∃ rs' : List Sl, v = .int .i64 (reduceB m cols).1 ∧ rs'.length = m.length ∧ SpB B h0 h' (matA a rs' (reduceB m cols).2) := by
  have hal : a.len = m.length := by rw [(H.own 0 rfl).len, hl]
  refine mat_reduce_run (some f) a cols ?_
  unfold mat_reduce_m
  refine loop_inv (fun t : List Sl × Nat => (((reduceB m t.2).1 : Int), (t.2 : Int))) (fun t h' => t.2 ≤ cols ∧ t.1.length = m.length ∧ SpB B h0 h' (matA a t.1 (reduceB m t.2).2)) (fun t => cols - t.2) (rs, 0) rfl ⟨by simp, hl, H⟩ ?_
  rintro ⟨rs1, col⟩ h1 ⟨hk, hl1, H1⟩
  dsimp only at *
  have hev := reduce_even hm col
  have htop := reduce_top m col
  obtain ⟨st, hst⟩ : ∃ st, st = reduceB m col := ⟨_, rfl⟩
  rw [← hst] at hev htop H1 ⊢
  obtain ⟨top, m1⟩ := st
  dsimp only at hev htop H1 ⊢
  have hlm : rs1.length = m1.length := by omega
  have hstep : reduceB m (col + 1) = stepB (top, m1) col := by rw [reduceB, ← hst]
  refine br_dec (fun e => ?_) (fun e => ?_)
  · have hcn : col < n := by omega
    have hrd2 : Rd2 h1 a 1 u8v m1 := H1.mat hlm (fun _ => rfl)
    refine (begins_spec a m1 n top col h1 hrd2 hev.1 hcn (by omega)).mono ?_
    rintro v h2 ⟨rfl, rfl⟩
    refine ⟨_, rfl, ?_⟩
    dsimp only
    cases hb : beginsB m1 top col with
    | none =>
      refine br_dec (fun _ => ?_) (fun e2 => absurd (by decide) e2)
      refine ⟨(rs1, col + 1), ?_, ⟨by dsimp only; omega, hl1, ?_⟩, by dsimp only; omega⟩
      · dsimp only; rw [hstep, stepB, hb, wrap_small _ (by omega) (by omega)]; rfl
      · dsimp only; rw [hstep, stepB, hb]; exact H1
    | some i =>
      have hh := begins_some hb
      refine br_dec (fun e2 => absurd (show ((i : Nat) : Int) < 0 from e2) (by omega)) (fun _ => ?_)
      dsimp only
      have hti : top < m1.length := by omega
      have hi := hh.2.1
      have hsq := H1.seq 0 rfl (fun _ => rfl)
      refine join_in ?_
      refine hsq.getS i rfl (by omega) fun _ _ _ => ?_
      refine hsq.getS top rfl (by omega) fun _ _ _ => ?_
      refine H1.set C_ok 0 rfl (fun _ => rfl) rfl top rfl (by omega) (rs1[i]'(by omega)) rfl rfl rfl fun h3 H3 => ⟨trivial, ?_⟩
      refine H3.set C_ok 0 rfl (fun _ => rfl) rfl i rfl (by simp; omega) (rs1[top]'(by omega)) rfl rfl rfl fun h4 H4 => ⟨trivial, ?_⟩
      have H4' : SpB B h0 h4 (matA a ((rs1.set top (rs1[i]'(by omega))).set i (rs1[top]'(by omega))) (swapB m1 top i)) := by
        have := H4.swap2 (top + 1) (i + 1) (A := OwnA T_uint8 (rs1[top]'(by omega)) 1 u8v m1[top]) (A2 := OwnA T_uint8 (rs1[i]'(by omega)) 1 u8v m1[i]) (ownRows_get hlm top hti) (ownRows_get hlm i hi)
        show SpB B h0 h4 (OwnA T_sl_uint8 a 1 slv _ :: ownRows T_uint8 1 u8v _ _)
        rw [← ownRows_swap hlm top i hti hi]
        exact this
      obtain ⟨rs2, hrs2⟩ : ∃ rs2, rs2 = (rs1.set top (rs1[i]'(by omega))).set i (rs1[top]'(by omega)) := ⟨_, rfl⟩
      rw [← hrs2] at H4'
      have hl2 : rs2.length = m1.length := by rw [hrs2]; simp; omega
      obtain ⟨m2, hm2⟩ : ∃ m2, m2 = swapB m1 top i := ⟨_, rfl⟩
      have hev2 : evenB n m2 := by rw [hm2]; exact swap_even hev.1 hti hi
      have hlm2 : m2.length = m1.length := by rw [hm2]; exact swap_len' _ _ _
      rw [← hm2] at H4'
      have hlr2 : rs2.length = m2.length := by omega
      have htm2 : top < m2.length := by omega
      refine join_in ?_
      have gt := mat_row (a := a) hlr2 top htm2
      have lt : m2[top].length = n := hev2 _ (List.getElem_mem _)
      have hs4 := H4'.seq 0 rfl (fun _ => rfl)
      refine hs4.getS top rfl (by omega) fun a10 ha10 _ => ?_
      have hrow := H4'.seq (top + 1) gt (fun _ => rfl)
      refine hrow.get1 col rfl (by omega) _ rfl ?_
      refine hs4.getS top rfl (by omega) fun a14 ha14 _ => ?_
      have hf4 : FieldB h4 f := hf0.pres H4'.pres hfB
      refine (inv_spec f _ h4 hf4).mono ?_
      rintro v h5 ⟨rfl, rfl⟩
      refine ⟨_, rfl, ⟨ha14, ha10, trivial⟩, ?_⟩
      refine (scale_spec f _ _ _ h5 hf4 hrow (by omega)).mono ?_
      rintro v h6 ⟨r, rfl, R6⟩
      refine ⟨r, rfl, ⟨held_up ha10 R6.pres, trivial⟩, ?_⟩
      have H6 := H4'.comp R6
      dsimp only
      refine H6.set C_ok 0 rfl (fun _ => rfl) rfl top rfl (by omega) r rfl rfl rfl fun h7 H7 => ⟨trivial, ?_⟩
      have hrt : m2[top] = rowB m2 top := (row_lt htm2).symm
      have hct : (m2[top])[col]'(by omega) = colB (rowB m2 top) col := by rw [col_lt (by rw [row_lt htm2]; omega)]; simp only [row_lt htm2]
      have H7' : SpB B h0 h7 (matA a (rs2.set top r) (normB top col m2)) := by
        have h8 : SpB B h0 h7 ((OwnA T_sl_uint8 a 1 slv (rs2.set top r) :: ownRows T_uint8 1 u8v rs2 m2) ++ [OwnA T_uint8 r 1 u8v (scaleB (Gf.inv ((m2[top])[col]'(by omega))) m2[top])]) := H7
        have h9 := h8.swapIn (top + 1) (by simp [ownRows_len hlr2]; omega)
        rw [hct, hrt] at h9
        show SpB B h0 h7 (OwnA T_sl_uint8 a 1 slv _ :: ownRows T_uint8 1 u8v _ (m2.set top _))
        rw [← ownRows_set hlr2]
        exact h9
      have hlen3 : (normB top col m2).length = m2.length := norm_len _ _ _
      refine elim_loop hf0 hfB (by simp; omega) (norm_even hev2 htm2) hcn hn (by omega) (by omega) H7' fun h8 H8 => ?_
      have hsome : stepB (top, m1) col = (top + 1, elimB top col (normB top col m2) m1.length) := by
        rw [stepB]; dsimp only; rw [hb, hm2]
      refine ⟨(rs2.set top r, col + 1), ?_, ⟨by dsimp only; omega, by simp; omega, ?_⟩, by dsimp only; omega⟩
      · dsimp only; rw [hstep, hsome, wrap_small _ (by omega) (by omega), wrap_small _ (by omega) (by omega)]; rfl
      · dsimp only; rw [hstep, hsome]; rw [hlen3, hlm2] at H8; exact H8
  · have : col = cols := by omega
    subst this
    exact ⟨rs1, by rw [← hst], hl1, by rw [← hst]; exact H1⟩
theorem Reduce_spec (f : Addr) (a : Sl) (m : Mat) (n : Nat) (h : Heap) (hf : FieldB h f) (ha : Rd2 h a 1 u8v m) (hm : evenB n m) (hn : n ≤ 64) (hs : m.length ≤ 2 ^ 30) :
    Meets Tryz.prog mat_Reduce_id #[.pointer (some f), .slice a.ptr a.len a.cap] h fun v h' => ∃ (r : Sl) (rs : List Sl), v = .slice r.ptr r.len r.cap ∧ r.len = rankB m ∧ rs.length = m.length ∧ r.len ≤ m.length ∧ Sp h h' (matA ⟨r.ptr, m.length, r.cap⟩ rs (reduceB m (widthB m)).2) := by
  refine mat_Reduce_run (some f) a ?_
  unfold mat_Reduce_m
  refine (mat_May_spec a m n h ha hm hn hs).mono ?_
  rintro v h1 ⟨rfl, rfl⟩
  refine ⟨_, rfl, br_not (fun e => by cases e) fun _ => ?_⟩
  refine (mat_own_spec a m n h1 ha hm hn hs).mono ?_
  rintro v h2 ⟨r, rs, rfl, hl, R2⟩
  refine ⟨r, rfl, (mat_sure_spec f h2).mono ?_⟩
  rintro v h3 ⟨rfl, rfl⟩
  refine ⟨some f, rfl, (mat_width_spec r m h3 (R2.mat hl (fun _ => rfl))).mono ?_⟩
  rintro v h4 ⟨rfl, rfl⟩
  have hw : widthB m ≤ n := by
    cases m with
    | nil => simp [widthB, rowB]
    | cons x t => rw [widthB, row_lt (by simp)]; exact Nat.le_of_eq (hm _ (by simp))
  refine ⟨_, rfl, (reduce_spec hf hf.lt hl hm hw hn hs R2).mono ?_⟩
  rintro v h5 ⟨rs', rfl, hl', R5⟩
  have htop := reduce_top m (widthB m)
  rw [(reduce_even hm _).2] at htop
  have hcap := (R5.own 0 rfl).cap
  have hlen := (R5.own 0 rfl).len
  refine ⟨_, rfl, ⟨Int.natCast_nonneg _, Int.ofNat_le.2 (show (reduceB m (widthB m)).1 ≤ r.cap by omega)⟩, ⟨r.ptr, (reduceB m (widthB m)).1, r.cap⟩, rs', by simp, rfl, hl', htop, ?_⟩
  have : r = ⟨r.ptr, m.length, r.cap⟩ := by
    obtain ⟨p, l, c⟩ := r
    simp only at hlen ⊢
    rw [← hl', ← hlen]
  rw [← this]; exact R5
theorem Rank_spec (f : Addr) (a : Sl) (m : Mat) (n : Nat) (h : Heap) (hf : FieldB h f) (ha : Rd2 h a 1 u8v m) (hm : evenB n m) (hn : n ≤ 64) (hs : m.length ≤ 2 ^ 30) :
    Meets Tryz.prog mat_Rank_id #[.pointer (some f), .slice a.ptr a.len a.cap] h fun v h' => v = .int .i64 (rankB m) ∧ Sp h h' [] := by
  refine mat_Rank_run (some f) a ?_
  unfold mat_Rank_m
  refine (Reduce_spec f a m n h hf ha hm hn hs).mono ?_
  rintro v h1 ⟨r, rs, rfl, hr, _, _, R1⟩
  exact ⟨r, rfl, by rw [hr], .zip R1.pres⟩
end Go.Proofs.YtmadbodaleaaeaaGreat

namespace Go.Proofs.YtmadbodaleaaeaaGreat
open Go Go.Vc Go.Proofs Wl
set_option maxRecDepth 100000
theorem gf_sys_Rank_spec (p : Pm) (seed : Int) (ids : Sl) (l : List Int) (h : Heap) (hl : Rd h ids 1 intv l) (hsz : l.length ≤ 2 ^ 29) : Meets Tryz.prog system_Rank_id #[pmv p, .int .u32 seed, .slice ids.ptr ids.len ids.cap] h fun v h' => v = .int .i64 (rankI p seed l) ∧ Sp h h' [] := by
  refine system_Rank_run p seed ids ?_
  unfold system_Rank_m
  refine (Sp.refl h).boxed fun a h1 H1 => ?_
  refine ⟨p, (H1.box 0 rfl).cells0 _ rfl, (gfNew_spec h1).mono ?_⟩
  rintro v h2 ⟨f, rfl, R2⟩
  have H2 := H1.comp R2
  have hb := H2.box 0 rfl
  refine ⟨some f, rfl, ⟨hb.cell0 rfl, hb.cell rfl, hb.cell rfl, trivial⟩, ?_⟩
  refine (matrix_spec p seed ids l h2 (Seq.up hl H2.pres) (by omega)).mono ?_
  rintro v h3 ⟨r, rfl, R3⟩
  have H3 := H2.comp R3
  refine ⟨r, rfl, trivial, ?_⟩
  have hml := matI_len p seed l
  have hcp : (colsP p).toNat ≤ 64 := by
    unfold colsP
    split
    · rename_i hp; have := (mayP_iff p).1 hp; omega
    · omega
  refine (Rank_spec f r _ _ h3 (H3.box 1 rfl) (H3.rd2 2 rfl) (matI_even p seed l) hcp (by omega)).mono ?_
  rintro v h4 ⟨rfl, R4⟩
  exact ⟨_, rfl, trivial, rfl, .zip (H3.comp R4).pres⟩
theorem full_spec (p : Pm) (seed : Int) (ids : Sl) (l : List Int) (h : Heap) (hl : Rd h ids 1 intv l) (hsz : l.length ≤ 2 ^ 29) : Meets Tryz.prog system_Full_id #[pmv p, .int .u32 seed, .slice ids.ptr ids.len ids.cap] h fun v h' => v = .bool (fullI p seed l) ∧ Sp h h' [] := by
  refine system_Full_run p seed ids ?_
  unfold system_Full_m
  refine (Sp.refl h).boxed fun a h1 H1 => ?_
  refine ⟨p, (H1.box 0 rfl).cells0 _ rfl, (pre_May_spec p h1).mono ?_⟩
  rintro v h2 ⟨rfl, R2⟩
  have H2 := H1.comp R2
  refine ⟨_, rfl, trivial, br_b (fun e => ?_) (fun e => ⟨trivial, trivial, by rw [fullI, e]; rfl, .zip H2.pres⟩)⟩
  have hb := H2.box 0 rfl
  refine ⟨p, hb.cells0 _ rfl, p, hb.cells0 _ rfl, (gf_sys_Rank_spec p seed ids l h2 (Seq.up hl H2.pres) hsz).mono ?_⟩
  rintro v h3 ⟨rfl, R3⟩
  have H3 := H2.comp R3
  have hb3 := H3.box 0 rfl
  refine ⟨_, rfl, ⟨hb3.cell0 rfl, hb3.cell rfl, hb3.cell rfl, trivial⟩, (pre_Cols_spec p h3).mono ?_⟩
  rintro v h4 ⟨rfl, R4⟩
  exact ⟨_, rfl, trivial, by rw [fullI, e]; rfl, .zip (H3.comp R4).pres⟩
theorem right_spec (p : Pm) (seed : Int) (h : Heap) : Meets Tryz.prog system_Right_id #[pmv p, .int .u32 seed] h fun v h' => v = .bool (fullI p seed (firstI p)) ∧ Sp h h' [] := by
  refine system_Right_run p seed ?_
  unfold system_Right_m
  refine (Sp.refl h).boxed fun a h1 H1 => ?_
  have hb := H1.box 0 rfl
  refine ⟨p, hb.cells0 _ rfl, p, hb.cells0 _ rfl, (first_spec p h1).mono ?_⟩
  rintro v h2 ⟨r, rfl, R2⟩
  have H2 := H1.comp R2
  have hb2 := H2.box 0 rfl
  refine ⟨r, rfl, ⟨hb2.cell0 rfl, hb2.cell rfl, hb2.cell rfl, trivial⟩, (full_spec p seed r _ h2 (H2.seq 1 rfl (fun _ => rfl)) (by rw [upto_len]; omega)).mono ?_⟩
  rintro v h3 ⟨rfl, R3⟩
  exact ⟨_, rfl, trivial, rfl, .zip (H2.comp R3).pres⟩
theorem within_spec (x n : Int) (h : Heap) (hn : 0 < n) (hb : n ≤ 2 ^ 62) : Meets Tryz.prog wellspringkeep_Within_id #[.int .i64 x, .int .i64 n] h fun v h' => v = .int .i64 (x % n) ∧ h' = h := by
  refine wellspringkeep_Within_run x n ?_
  unfold wellspringkeep_Within_m
  have h1 := Int.tmod_lt_of_pos x hn
  have h2 : -n < x.tmod n := Int.lt_tmod_of_pos x hn
  have he := tmod_fix x n hn
  refine ⟨by omega, join_in ?_⟩
  refine br_dec (fun hlt => ?_) (fun hge => ?_)
  · rw [wrap_small _ (by omega) (by omega)]
    exact ⟨by rw [he, if_pos hlt], rfl⟩
  · exact ⟨by rw [he, if_neg hge], rfl⟩
theorem rd_nil {α : Type} (h : Heap) (f : α → List Value) : Rd h ⟨none, 0, 0⟩ 1 f [] := Seq.nil _ _ _ _ _ _
end Go.Proofs.YtmadbodaleaaeaaGreat

namespace Go.Proofs.YtmadbodaleaaeaaGreat
open Go Go.Vc Go.Proofs Wl
set_option maxRecDepth 100000
theorem ids_spec (s : Sl) (l : List Int) (most : Nat) (h : Heap) (hl : Rd h s 1 intv l) (hm : most ≤ 1000) : Meets Tryz.prog wellspringlaw10_IDs_id #[.slice s.ptr s.len s.cap, .int .i64 most] h fun v h' => ∃ r : Sl, v = .slice r.ptr r.len r.cap ∧ Sp h h' [OwnA T_int r 1 intv (idsOf l most)] := by
  refine wellspringlaw10_IDs_run s most ?_
  unfold wellspringlaw10_IDs_m
  have hlen := hl.len
  refine join_in ?_
  refine loop_inv (fun t : Sl × Nat => (t.1, (t.2 : Int))) (fun t h' => t.2 ≤ l.length ∧ t.2 ≤ most ∧ Sp h h' [OwnA T_int t.1 1 intv ((l.take t.2).map idOf)]) (fun t => most - t.2) (⟨none, 0, 0⟩, 0) rfl ⟨by simp, by simp, (Sp.refl h).nil T_int 1 intv⟩ ?_
  rintro ⟨r, k⟩ h1 ⟨hk, hk2, H1⟩
  dsimp only at *
  have fin : (¬ k < l.length ∨ ¬ k < most) → ∃ r2 : Sl, Value.slice r.ptr r.len r.cap = .slice r2.ptr r2.len r2.cap ∧ Sp h h1 [OwnA T_int r2 1 intv (idsOf l most)] := fun hh => by
    refine ⟨r, rfl, ?_⟩
    have : l.take k = l.take most := by
      rcases hh with h1 | h1
      · rw [List.take_of_length_le (by omega), List.take_of_length_le (by omega)]
      · rw [show k = most by omega]
    rw [idsOf, ← this]; exact H1
  refine join_in (br_dec (fun e1 => br_dec (fun e2 => ?_) (fun e2 => fin (.inr (by omega)))) (fun e1 => fin (.inl (by omega))))
  have hk' : k < l.length := by omega
  have hr := Seq.up hl H1.pres
  have hl1 : ((l.take k).map idOf).length + 1 ≤ 2 ^ 32 := by rw [List.length_map, List.length_take]; omega
  have next : ∀ (y : Int) (r' : Sl) (h' : Heap), idOf l[k] = y → Sp h h' [OwnA T_int r' 1 intv ((l.take k).map idOf ++ [y])] → ∃ t' : Sl × Nat, ((⟨r'.ptr, r'.len, r'.cap⟩ : Sl), IntKind.wrap .i64 ((k : Int) + 1)) = (t'.1, (t'.2 : Int)) ∧ (t'.2 ≤ l.length ∧ t'.2 ≤ most ∧ Sp h h' [OwnA T_int t'.1 1 intv ((l.take t'.2).map idOf)]) ∧ most - t'.2 < most - k := fun y r' h' hy H => by
    refine ⟨(r', k + 1), by dsimp only; rw [wrap_small _ (by omega) (by omega)]; rfl, ⟨by dsimp only; omega, by dsimp only; omega, ?_⟩, by dsimp only; omega⟩
    dsimp only
    rw [take_snoc _ _ hk', List.map_append, List.map_singleton, hy]; exact H
  refine hr.get1 k rfl hk' _ rfl ⟨by decide, ?_⟩
  refine br_eq (fun e5 => ?_) (fun e5 => br_eq (fun e6 => ?_) (fun e6 => ?_))
  · refine hr.get1 k rfl hk' _ rfl ⟨by decide, (within_spec _ 65536 h1 (by decide) (by decide)).mono ?_⟩
    rintro v h2 ⟨rfl, rfl⟩
    refine ⟨_, rfl, ?_⟩
    refine H1.push C_ok 0 rfl eInt rfl (by decide) (fun _ => rfl) one_int _ rfl (by decide) hl1 fun r' h3 H3 => next _ r' h3 ?_ H3
    rw [idOf, if_pos e5]
  · refine hr.get1 k rfl hk' _ rfl ?_
    refine H1.push C_ok 0 rfl eInt rfl (by decide) (fun _ => rfl) one_int _ rfl (by decide) hl1 fun r' h3 H3 => next _ r' h3 ?_ H3
    rw [idOf, if_neg e5, if_pos e6]
  · refine hr.get1 k rfl hk' _ rfl ⟨by decide, (within_spec _ 40 h1 (by decide) (by decide)).mono ?_⟩
    rintro v h2 ⟨rfl, rfl⟩
    refine ⟨_, rfl, ?_⟩
    refine H1.push C_ok 0 rfl eInt rfl (by decide) (fun _ => rfl) one_int _ rfl (by decide) hl1 fun r' h3 H3 => next _ r' h3 ?_ H3
    rw [idOf, if_neg e5, if_neg e6]
end Go.Proofs.YtmadbodaleaaeaaGreat

namespace Go.Proofs.YtmadbodaleaaeaaGreat
open Go Go.Vc Go.Proofs Wl
set_option maxRecDepth 100000
def smallP (a b c : Int) : Int × Int × Int := (1 + a % 6, 1 + b % 3, 1 + c % 9)
theorem smallP_may (a b c : Int) : mayP (smallP a b c) = true := by
  rw [mayP_iff]; simp only [smallP]; omega
theorem small_spec (a b c : Int) (h : Heap) : Meets Tryz.prog wellspringplay_Small_id #[.int .i64 a, .int .i64 b, .int .i64 c] h fun v h' => v = pmv (smallP a b c) ∧ Sp h h' [] := by
  refine wellspringplay_Small_run a b c ?_
  unfold wellspringplay_Small_m
  refine (Sp.refl h).alloc C_ok rfl fun x h1 H1 => ?_
  refine (within_spec a 6 h1 (by decide) (by decide)).mono ?_
  rintro v h2 ⟨rfl, rfl⟩
  refine ⟨_, rfl, (within_spec b 3 h2 (by decide) (by decide)).mono ?_⟩
  rintro v h3 ⟨rfl, rfl⟩
  refine ⟨_, rfl, (within_spec c 9 h3 (by decide) (by decide)).mono ?_⟩
  rintro v h4 ⟨rfl, rfl⟩
  refine ⟨_, rfl, ?_⟩
  dsimp only
  rw [wrap_small _ (by omega) (by omega), wrap_small _ (by omega) (by omega), wrap_small _ (by omega) (by omega)]
  refine H1.storeAll C_ok 0 rfl rfl [.int .i64 (1 + a % 6), .int .i64 (1 + b % 3), .int .i64 (1 + c % 9)] rfl rfl rfl rfl fun h5 H5 => ?_
  exact ⟨smallP a b c, (H5.box 0 rfl).cells0 _ rfl, rfl, .zip H5.pres⟩
end Go.Proofs.YtmadbodaleaaeaaGreat

namespace Go.Proofs.YtmadbodaleaaeaaGreat
open Go Go.Vc Go.Proofs Wl
set_option maxRecDepth 100000
theorem wrap_u32_eq (x : Int) : IntKind.wrap .u32 x = x % 4294967296 := by simp [IntKind.wrap, IntKind.signed, IntKind.bits]
theorem wrap_wrap_u32 (x : Int) : IntKind.wrap .u32 (IntKind.wrap .u32 x) = IntKind.wrap .u32 x := by
  rw [wrap_u32_eq, wrap_u32_eq]; omega
theorem wrap_u32_add (x y : Int) : IntKind.wrap .u32 (IntKind.wrap .u32 x + y) = IntKind.wrap .u32 (x + y) := by
  rw [wrap_u32_eq, wrap_u32_eq, wrap_u32_eq]; omega
theorem seed_spec (p : Pm) (seed : Int) (h : Heap) : Meets Tryz.prog wellspringlaw11_Seed_id #[pmv p, .int .u64 seed] h fun v h' => ∃ s : Int, v = .int .u32 s ∧ Sp h h' [] := by
  refine wellspringlaw11_Seed_run p seed ?_
  unfold wellspringlaw11_Seed_m
  refine (Sp.refl h).boxed fun a h1 H1 => ?_
  obtain ⟨s0, hs0⟩ : ∃ s0, s0 = IntKind.wrap .u32 seed := ⟨_, rfl⟩
  rw [← hs0]
  refine loop_inv (fun k : Nat => IntKind.wrap .u32 (s0 + (k : Int))) (fun k h' => k ≤ 24 ∧ Sp h h' [BoxA a T_api_Params [.int .i64 p.1, .int .i64 p.2.1, .int .i64 p.2.2]]) (fun k => 24 - k) 0 ?_ ⟨by omega, H1⟩ ?_
  · rw [hs0]; simp [wrap_wrap_u32]
  rintro k h2 ⟨hk, H2⟩
  refine br_ne (fun e => ?_) (fun e => ⟨_, rfl, .zip H2.pres⟩)
  refine ⟨p, (H2.box 0 rfl).cells0 _ rfl, (right_spec p _ h2).mono ?_⟩
  rintro v h3 ⟨rfl, R3⟩
  have H3 := H2.comp R3
  refine ⟨_, rfl, br_b (fun _ => ⟨_, rfl, .zip H3.pres⟩) (fun _ => ?_)⟩
  have hk24 : k ≠ 24 := fun hh => e (by rw [hh]; rfl)
  refine ⟨k + 1, ?_, ⟨by omega, H3⟩, by omega⟩
  rw [wrap_u32_add]
  congr 1
  omega
end Go.Proofs.YtmadbodaleaaeaaGreat

namespace Go.Proofs.YtmadbodaleaaeaaGreat
open Go Go.Vc Go.Proofs
set_option maxRecDepth 100000
theorem same_int_spec {p q : Blocks} (a b : Sl) (la lb : List Int) (h : Heap) (ha : Seq h p a 1 intv la) (hb : Seq h q b 1 intv lb) (hs : la.length ≤ 2 ^ 40) :
    Meets Tryz.prog wellspringkeep_Same_int_id #[.slice a.ptr a.len a.cap, .slice b.ptr b.len b.cap] h fun v h' => v = .bool (decide (la = lb)) ∧ h' = h := by
  refine wellspringkeep_Same_int_run a b ?_
  unfold wellspringkeep_Same_int_m
  have hal := ha.len; have hbl := hb.len
  refine br_ne (fun hne => ⟨?_, rfl⟩) (fun heq => ?_)
  · rw [decide_eq_false (fun e => hne (by rw [hal, hbl, e]))]
  · refine loop_inv (fun k : Nat => (k : Int)) (fun k h' => h' = h ∧ k ≤ la.length ∧ la.take k = lb.take k) (fun k => la.length - k) 0 rfl ⟨rfl, by omega, by simp⟩ ?_
    rintro k h' ⟨rfl, hk, ht⟩
    refine br_dec (fun hlt => ?_) (fun hge => ?_)
    · have hk' : k < la.length := by omega
      have hk2 : k < lb.length := by omega
      refine ha.get1 k rfl hk' _ rfl ?_
      refine hb.get1 k rfl hk2 _ rfl ?_
      refine br_ne (fun hne => ⟨?_, rfl⟩) (fun heq => ?_)
      · rw [decide_eq_false]
        intro e; subst e; exact hne rfl
      · rw [wrap_small _ (by omega) (by omega)]
        exact ⟨k + 1, by simp, ⟨rfl, by omega, by rw [take_snoc _ _ hk', take_snoc _ _ hk2, ht, heq]⟩, by omega⟩
    · have : k = la.length := by omega
      subst this
      rw [List.take_of_length_le (by omega), List.take_of_length_le (by omega)] at ht
      exact ⟨by rw [decide_eq_true ht], rfl⟩

theorem member_spec {p : Blocks} (a : Sl) (la : List Int) (x : Int) (h : Heap) (ha : Seq h p a 1 intv la) (hs : la.length ≤ 2 ^ 40) :
    Meets Tryz.prog wellspringkeep_Member_int_id #[.slice a.ptr a.len a.cap, .int .i64 x] h fun v h' => v = .bool (decide (x ∈ la)) ∧ h' = h := by
  refine wellspringkeep_Member_int_run a x ?_
  unfold wellspringkeep_Member_int_m
  have hal := ha.len
  refine loop_inv (fun k : Nat => (k : Int)) (fun k h' => h' = h ∧ k ≤ la.length ∧ x ∉ la.take k) (fun k => la.length - k) 0 rfl ⟨rfl, by omega, by simp⟩ ?_
  rintro k h' ⟨rfl, hk, ht⟩
  refine br_dec (fun hlt => ?_) (fun hge => ?_)
  · have hk' : k < la.length := by omega
    refine ha.get1 k rfl hk' _ rfl ?_
    refine br_eq (fun heq => ⟨?_, rfl⟩) (fun hne => ?_)
    · rw [decide_eq_true (by rw [← heq]; exact List.getElem_mem hk')]
    · rw [wrap_small _ (by omega) (by omega)]
      refine ⟨k + 1, by simp, ⟨rfl, by omega, ?_⟩, by omega⟩
      rw [take_snoc _ _ hk']
      simp only [List.mem_append, List.mem_singleton, not_or]
      exact ⟨ht, fun e => hne e.symm⟩
  · rw [List.take_of_length_le (by omega)] at ht
    exact ⟨by rw [decide_eq_false ht], rfl⟩

end Go.Proofs.YtmadbodaleaaeaaGreat

namespace Go.Proofs.YtmadbodaleaaeaaGreat
open Go Go.Vc Go.Proofs Wl
set_option maxRecDepth 100000
def ints (l : List Nat) : List Int := l.map fun x : Nat => (x : Int)
theorem ints_len (l : List Nat) : (ints l).length = l.length := by simp [ints]
theorem ints_get {l : List Nat} {k : Nat} (h : k < l.length) : (ints l)[k]'(by rw [ints_len]; exact h) = (l[k] : Int) := by simp [ints]
theorem ints_mem {l : List Nat} {k : Nat} : (k : Int) ∈ ints l ↔ k ∈ l := by
  simp only [ints, List.mem_map]
  exact ⟨fun ⟨a, h1, h2⟩ => by rw [← Int.ofNat_inj.1 h2]; exact h1, fun h => ⟨k, h, rfl⟩⟩
theorem ch_mono {n : Nat} : ∀ {j i : Nat}, i ≤ j → 2 * j ≤ n → ch n i ≤ ch n j
  | 0, i, h, _ => by have : i = 0 := by omega
                     subst this; exact Nat.le_refl _
  | j + 1, i, h, hj => by
    by_cases hi : i = j + 1
    · subst hi; exact Nat.le_refl _
    · exact Nat.le_trans (ch_mono (by omega) (by omega)) (ch_le (by omega))
theorem setsRight_spec (n t : Int) (h : Heap) : Meets Tryz.prog sets_right_id #[.int .i64 n, .int .i64 t] h fun v h' => v = .bool (decide (0 ≤ n ∧ n ≤ 64 ∧ 0 ≤ t ∧ t ≤ n)) ∧ h' = h := by
  refine sets_right_run n t ?_
  unfold sets_right_m
  refine br_dec (fun h1 => br_dec (fun h2 => br_dec (fun h3 => ⟨?_, rfl⟩) (fun h3 => ⟨?_, rfl⟩)) (fun h2 => ⟨?_, rfl⟩)) (fun h1 => ⟨?_, rfl⟩)
  · congr 1; exact decide_eq_decide.2 (by omega)
  · rw [decide_eq_false (by omega)]
  · rw [decide_eq_false (by omega)]
  · rw [decide_eq_false (by omega)]
theorem count_spec (n t : Int) (h : Heap) (hn : -(2 ^ 62) ≤ n ∧ n ≤ 2 ^ 62) (ht : -(2 ^ 62) ≤ t ∧ t ≤ 2 ^ 62) : Meets Tryz.prog sets_Count_id #[.int .i64 n, .int .i64 t] h fun v h' => v = .int .i64 (countI n t) ∧ h' = h := by
  refine sets_Count_run n t ?_
  unfold sets_Count_m
  refine (setsRight_spec n t h).mono ?_
  rintro v h1 ⟨rfl, rfl⟩
  refine ⟨_, rfl, br_not (fun e => ?_) (fun e => ?_)⟩
  · have e := of_decide_eq_false e
    unfold countI; rw [if_neg e]; exact ⟨rfl, rfl⟩
  · have e := of_decide_eq_true e
    obtain ⟨N, rfl⟩ : ∃ N : Nat, n = N := ⟨n.toNat, by omega⟩
    obtain ⟨T, rfl⟩ : ∃ T : Nat, t = T := ⟨t.toNat, by omega⟩
    have hc : countI N T = ((min (ch N T) 4097 : Nat) : Int) := by unfold countI; rw [if_pos e]; rfl
    rw [hc]
    obtain ⟨m, hm⟩ : ∃ m, m = min T (N - T) := ⟨_, rfl⟩
    have hmch : ch N m = ch N T := by
      rw [hm]
      rcases Nat.le_total T (N - T) with h2 | h2
      · rw [Nat.min_eq_left h2]
      · rw [Nat.min_eq_right h2, ← ch_sym N T (by omega)]
    have ebound : (if IntKind.wrap .i64 ((N : Int) - T) < (T : Int) then IntKind.wrap .i64 ((N : Int) - T) else (T : Int)) = (m : Int) := by
      rw [wrap_small _ (by omega) (by omega)]; split <;> omega
    rw [ebound]
    refine loop_inv (fun i : Nat => (((ch N i : Nat) : Int), (i : Int))) (fun i h' => h' = h1 ∧ i ≤ m ∧ ch N i ≤ 4096) (fun i => m - i) 0 (by rw [ch_zero]; rfl) ⟨rfl, by omega, by rw [ch_zero]; omega⟩ ?_
    rintro i h2 ⟨rfl, hi, hci⟩
    dsimp only
    refine br_dec (fun e2 => ?_) (fun e2 => ?_)
    · have hi' : i < m := by omega
      have hN : N ≤ 64 := by omega
      have hnx := ch_next (n := N) (k := i) (by omega)
      have hmul : ch N i * (N - i) ≤ 4096 * 64 := Nat.mul_le_mul hci (by omega)
      have e3 : IntKind.wrap .i64 ((N : Int) - i) = ((N - i : Nat) : Int) := by rw [wrap_small _ (by omega) (by omega)]; omega
      have e4 : IntKind.wrap .i64 (((ch N i : Nat) : Int) * ((N - i : Nat) : Int)) = ((ch N i * (N - i) : Nat) : Int) := by rw [← Int.natCast_mul, wrap_small _ (by omega) (by omega)]
      have e5 : IntKind.wrap .i64 ((i : Int) + 1) = ((i + 1 : Nat) : Int) := by rw [wrap_small _ (by omega) (by omega)]; rfl
      have e6 : Int.tdiv ((ch N i * (N - i) : Nat) : Int) ((i + 1 : Nat) : Int) = ((ch N (i + 1) : Nat) : Int) := by
        rw [← hnx, ← Int.ofNat_tdiv, Nat.mul_div_cancel _ (by omega)]
      have hle : ch N (i + 1) ≤ 4096 * 64 := by
        have : ch N (i + 1) * 1 ≤ ch N (i + 1) * (i + 1) := Nat.mul_le_mul_left _ (by omega)
        omega
      rw [e3, e4, e5, e6, wrap_small _ (by omega) (by omega)]
      refine ⟨by omega, br_dec (fun e7 => ?_) (fun e7 => ?_)⟩
      · have := ch_mono (n := N) (j := m) (i := i + 1) (by omega) (by omega)
        refine ⟨?_, rfl⟩
        rw [show min (ch N T) 4097 = 4097 by omega]; rfl
      · exact ⟨i + 1, rfl, ⟨rfl, by omega, by omega⟩, by omega⟩
    · have : i = m := by omega
      subst this
      refine ⟨?_, rfl⟩
      rw [show min (ch N T) 4097 = ch N i by omega]
theorem index_spec (s : Sl) (l : List Int) (x : Int) (h : Heap) (hs : Rd h s 1 intv l) (hl : l.length ≤ 2 ^ 30) : Meets Tryz.prog slices_Index_int_int_id #[.slice s.ptr s.len s.cap, .int .i64 x] h fun v h' => (∃ i : Int, v = .int .i64 i ∧ (0 ≤ i ↔ x ∈ l) ∧ (0 ≤ i → l[i.toNat]? = some x ∧ ∀ j, j < i.toNat → l[j]? ≠ some x) ∧ i < l.length ∧ -1 ≤ i) ∧ h' = h := by
  refine slices_Index_int_int_run s x ?_
  unfold slices_Index_int_int_m
  have hsl := hs.len
  refine loop_inv (fun i : Nat => (i : Int)) (fun i h' => h' = h ∧ i ≤ l.length ∧ ∀ j, j < i → l[j]? ≠ some x) (fun i => l.length - i) 0 rfl ⟨rfl, by omega, fun j hj => by omega⟩ ?_
  rintro i h1 ⟨rfl, hi, hno⟩
  refine br_dec (fun e => ?_) (fun e => ?_)
  · have hi' : i < l.length := by omega
    refine hs.get1 i rfl hi' _ rfl ?_
    refine br_eq (fun e2 => ?_) (fun e2 => ?_)
    · refine ⟨⟨i, rfl, ⟨fun _ => e2 ▸ List.getElem_mem hi', fun _ => by omega⟩, fun _ => ⟨by rw [Int.toNat_natCast, List.getElem?_eq_getElem hi', e2], fun j hj => hno j (by omega)⟩, by omega, by omega⟩, rfl⟩
    · refine ⟨i + 1, by rw [wrap_small _ (by omega) (by omega)]; rfl, ⟨rfl, by omega, fun j hj => ?_⟩, by omega⟩
      rcases Nat.lt_succ_iff_lt_or_eq.1 hj with hj | rfl
      · exact hno j hj
      · rw [List.getElem?_eq_getElem hi']; intro hh; exact e2 (Option.some.inj hh).symm
  · refine ⟨⟨-1, rfl, ⟨fun hh => by omega, fun hh => ?_⟩, fun hh => by omega, by omega, by omega⟩, rfl⟩
    obtain ⟨j, hj, rfl⟩ := List.getElem_of_mem hh
    exact absurd (List.getElem?_eq_getElem hj) (hno j (by omega))
theorem contains_spec (s : Sl) (l : List Int) (x : Int) (h : Heap) (hs : Rd h s 1 intv l) (hl : l.length ≤ 2 ^ 30) : Meets Tryz.prog slices_Contains_int_int_id #[.slice s.ptr s.len s.cap, .int .i64 x] h fun v h' => v = .bool (decide (x ∈ l)) ∧ h' = h := by
  refine slices_Contains_int_int_run s x ?_
  unfold slices_Contains_int_int_m
  refine (index_spec s l x h hs hl).mono ?_
  rintro v h1 ⟨⟨i, rfl, hi, _⟩, rfl⟩
  refine ⟨i, rfl, ?_, rfl⟩
  congr 1
  exact decide_eq_decide.2 hi
/-! ### Sets -/
theorem next_spec (n : Nat) (s : Sl) (l : List Nat) {B : Blocks} {h0 h : Heap} {As : List HP} (H : SpB B h0 h As) (i : Nat) (hi : As[i]? = some (OwnA T_int s 1 intv (ints l))) (hn : n ≤ 64) (hln : l.length ≤ n) (hb : ∀ x ∈ l, x < n) :
    Meets Tryz.prog sets_next_id #[.slice s.ptr s.len s.cap, .int .i64 n] h fun v h' => match succS n l with
      | some l' => v = .bool true ∧ SpB B h0 h' (As.set i (OwnA T_int s 1 intv (ints l')))
      | none => v = .bool false ∧ h' = h := by
  refine sets_next_run s n ?_
  unfold sets_next_m
  have hsl := (H.own i hi).len
  rw [ints_len] at hsl
  refine loop_inv (fun k : Nat => (k : Int) - 1) (fun k h' => h' = h ∧ k ≤ l.length ∧ succS n (l.drop k) = none) (fun k => k) l.length (by rw [hsl, Go.Vc.wrap_small _ (by omega) (by omega)]) ⟨rfl, Nat.le_refl _, by rw [List.drop_length]; rfl⟩ ?_
  rintro k h1 ⟨rfl, hk, hno⟩
  refine br_dec (fun e => ?_) (fun e => ?_)
  · obtain ⟨k, rfl⟩ : ∃ j, k = j + 1 := ⟨k - 1, by omega⟩
    have hk' : k < l.length := by omega
    have hd := H.seq i hi (fun _ => rfl)
    have hkx : (((k + 1 : Nat) : Int) - 1) = (k : Int) := by omega
    have hxn := hb _ (List.getElem_mem hk')
    have e1 : succS n (l.drop k) = if l[k] + (l.length - k - 1) + 1 < n then some (List.range' (l[k] + 1) (l.length - k - 1 + 1)) else none := by
      rw [List.drop_eq_getElem_cons hk']
      unfold succS
      rw [hno]
      simp [Nat.sub_sub]
    refine hd.get1 k hkx (by rw [ints_len]; exact hk') _ rfl ?_
    rw [ints_get hk', hkx, wrap_small ((n : Int) - ((s.len : Nat) : Int)) (by omega) (by omega), wrap_small _ (by omega) (by omega)]
    refine br_dec (fun e2 => ?_) (fun e2 => ?_)
    · refine hd.get1 k rfl (by rw [ints_len]; exact hk') _ rfl ?_
      rw [ints_get hk', wrap_small _ (by omega) (by omega)]
      rw [if_pos (by omega)] at e1
      have e3 := succS_at k l _ (by omega) e1
      rw [e3]
      dsimp only
      refine H.set C_ok i hi (fun _ => rfl) rfl k rfl (by rw [ints_len]; exact hk') ((l[k] : Int) + 1) rfl rfl rfl fun h2 H2 => ?_
      let st : Nat → List Nat := fun j => l.take k ++ List.range' (l[k] + 1) (j + 1) ++ l.drop (k + 1 + j)
      have hst0 : (ints l).set k ((l[k] : Int) + 1) = ints (st 0) := by
        have : st 0 = l.set k (l[k] + 1) := by
          simp only [st]
          rw [List.set_eq_take_append_cons_drop, if_pos hk']
          simp [List.range'_succ]
        rw [this]; simp [ints, List.map_set]
      rw [hst0] at H2
      refine loop_inv (fun j : Nat => ((k + 1 + j : Nat) : Int)) (fun j h' => k + 1 + j ≤ l.length ∧ SpB B h0 h' (As.set i (OwnA T_int s 1 intv (ints (st j))))) (fun j => l.length - j) 0 (by rw [wrap_small _ (by omega) (by omega)]; rfl) ⟨by omega, H2⟩ ?_
      rintro j h3 ⟨hj, H3⟩
      have hlen : (st j).length = l.length := by simp [st]; omega
      have hlt : i < As.length := (List.getElem?_eq_some_iff.1 hi).1
      have hg : (As.set i (OwnA T_int s 1 intv (ints (st j))))[i]? = some (OwnA T_int s 1 intv (ints (st j))) := List.getElem?_set_self hlt
      refine br_dec (fun e4 => ?_) (fun e4 => ?_)
      · have hj' : k + 1 + j < l.length := by omega
        have hgj : (st j)[k + j]'(by omega) = l[k] + 1 + j := by
          simp only [st, List.append_assoc]
          rw [List.getElem_append_right (by simp; omega), List.getElem_append_left (by simp; omega)]
          simp [List.getElem_range']; omega
        refine (H3.seq i hg (fun _ => rfl)).get1 (k + j) (by rw [wrap_small _ (by omega) (by omega)]; omega) (by rw [ints_len]; omega) _ rfl ?_
        rw [ints_get (by omega), hgj, wrap_small _ (by omega) (by omega)]
        refine H3.set C_ok i hg (fun _ => rfl) rfl (k + 1 + j) rfl (by rw [ints_len]; omega) (((l[k] + 1 + j : Nat) : Int) + 1) rfl rfl rfl fun h4 H4 => ?_
        refine ⟨j + 1, by rw [wrap_small _ (by omega) (by omega)]; omega, ⟨by omega, ?_⟩, by omega⟩
        rw [List.set_set] at H4
        have : (ints (st j)).set (k + 1 + j) (((l[k] + 1 + j : Nat) : Int) + 1) = ints (st (j + 1)) := by
          have h5 : (st j).set (k + 1 + j) (l[k] + 1 + j + 1) = st (j + 1) := by
            simp only [st]
            rw [List.set_append_right _ _ (by simp; omega)]
            have : k + 1 + j - (List.take k l ++ List.range' (l[k] + 1) (j + 1)).length = 0 := by simp; omega
            rw [this, List.drop_eq_getElem_cons hj', List.set_cons_zero, List.range'_concat (n := j + 1)]
            simp [Nat.add_assoc]
          rw [← h5]; simp [ints, List.map_set]
        rw [this] at H4; exact H4
      · have hj2 : k + 1 + j = l.length := by omega
        refine ⟨rfl, ?_⟩
        have : l.take k ++ List.range' (l[k] + 1) (l.length - k - 1 + 1) = st j := by
          simp only [st]
          rw [hj2, List.drop_length, List.append_nil, show l.length - k - 1 + 1 = j + 1 by omega]
        rw [this]; exact H3
    · rw [if_neg (by omega)] at e1
      exact ⟨k, by rw [Go.Vc.wrap_small _ (by omega) (by omega)], ⟨rfl, by omega, e1⟩, by omega⟩
  · have : k = 0 := by omega
    subst this
    rw [List.drop_zero] at hno
    rw [hno]; exact ⟨rfl, rfl⟩
end Go.Proofs.YtmadbodaleaaeaaGreat

namespace Go.Proofs.YtmadbodaleaaeaaGreat
open Go Go.Vc Go.Proofs Wl
set_option maxRecDepth 100000
/-! ### Spans -/
theorem lead_fn (h : Heap) (x : UInt8) : Meets Tryz.prog row_Lead_1_id #[.int .u8 x.toNat] h fun v h' => v = .bool (x != 0) ∧ h' = h := by
  refine row_Lead_1_run _ ?_
  unfold row_Lead_1_m
  refine ⟨?_, rfl⟩
  congr 1
  by_cases hx : x = 0
  · subst hx; rfl
  · have : ((x.toNat : Nat) : Int) ≠ 0 := fun hh => hx (nat0.1 hh)
    rw [bne_iff_ne.2 hx]; exact bne_iff_ne.2 this
theorem lead_spec (a : Sl) (l : Row) (h : Heap) (ha : Rd h a 1 u8v l) (hl : l.length ≤ 2 ^ 30) : Meets Tryz.prog row_Lead_id #[.slice a.ptr a.len a.cap] h fun v h' => v = .int .i64 (if leadB l < l.length then (leadB l : Int) else -1) ∧ h' = h := by
  refine row_Lead_run a ?_
  unfold row_Lead_m
  refine (slices_IndexFunc_byte_byte_run a (row_Lead_1_id, #[]) (R := fun v h' => v = .int .i64 (if leadB l < l.length then (leadB l : Int) else -1) ∧ h' = h) ?_).mono ?_
  · unfold slices_IndexFunc_byte_byte_m
    have hal := ha.len
    refine loop_inv (fun i : Nat => (i : Int)) (fun i h' => h' = h ∧ i ≤ l.length ∧ ∀ j (hj : j < l.length), j < i → l[j] = 0) (fun i => l.length - i) 0 rfl ⟨rfl, by omega, fun j _ hj => by omega⟩ ?_
    rintro i h1 ⟨rfl, hi, hno⟩
    refine br_dec (fun e => ?_) (fun e => ?_)
    · have hi' : i < l.length := by omega
      refine ha.get1 i rfl hi' _ rfl ?_
      refine dyn_in (by rfl) ?_
      refine (lead_fn h1 l[i]).mono ?_
      rintro v h2 ⟨rfl, rfl⟩
      refine ⟨_, rfl, br_b (fun e2 => ?_) (fun e2 => ?_)⟩
      · have hld : leadB l = i := by
          rw [leadB, List.findIdx_eq hi']
          exact ⟨e2, fun j hj => by simp [hno j (by omega) hj]⟩
        rw [hld, if_pos hi']; exact ⟨rfl, rfl⟩
      · refine ⟨i + 1, by rw [wrap_small _ (by omega) (by omega)]; rfl, ⟨rfl, by omega, fun j hj hji => ?_⟩, by omega⟩
        rcases Nat.lt_succ_iff_lt_or_eq.1 hji with h3 | rfl
        · exact hno j hj h3
        · simpa using e2
    · have hno' : ¬ leadB l < l.length := by
        rw [leadB, List.findIdx_lt_length]
        rintro ⟨x, hx, hx0⟩
        obtain ⟨j, hj, rfl⟩ := List.getElem_of_mem hx
        rw [hno j hj (by omega)] at hx0; simp at hx0
      rw [if_neg hno']; exact ⟨rfl, rfl⟩
  · rintro v h1 ⟨rfl, rfl⟩
    exact ⟨_, rfl, rfl, rfl⟩
theorem sum_spec (a b : Sl) (la lb : Row) (h : Heap) (ha : Rd h a 1 u8v la) (hb : Rd h b 1 u8v lb) (hl : la.length = lb.length) (hs : la.length ≤ 2 ^ 30) : Meets Tryz.prog row_Sum_id #[.slice a.ptr a.len a.cap, .slice b.ptr b.len b.cap] h fun v h' => ∃ r : Sl, v = .tuple #[.slice r.ptr r.len r.cap, .bool true] ∧ Sp h h' [OwnA T_uint8 r 1 u8v (List.zipWith (· ^^^ ·) la lb)] := by
  refine row_Sum_run a b ?_
  unfold row_Sum_m
  have h1 := ha.len; have h2 := hb.len
  refine br_ne (fun e => by omega) fun _ => ?_
  refine (Sp.refl h).make C_ok u8v eU8 (by decide) 0 rfl rfl la.length la.length (by omega) (by omega) (Nat.le_refl _) (by omega) fun s h3 hsl hc H3 => ?_
  refine loop_inv (fun k : Nat => (k : Int)) (fun k h' => k ≤ la.length ∧ Sp h h' [OwnA T_uint8 s 1 u8v (List.zipWith (· ^^^ ·) (la.take k) (lb.take k) ++ List.replicate (la.length - k) 0)]) (fun k => la.length - k) 0 rfl ⟨by omega, by simpa using H3⟩ ?_
  rintro k h4 ⟨hk, H4⟩
  refine br_dec (fun e => ?_) (fun e => ?_)
  · have hk' : k < la.length := by omega
    refine (Seq.up ha H4.pres).get1 k rfl hk' _ rfl ?_
    refine (Seq.up hb H4.pres).get1 k rfl (by omega) _ rfl ?_
    rw [xor_u8]
    refine H4.set C_ok 0 rfl (fun _ => rfl) rfl k rfl (by simp; omega) (la[k] ^^^ lb[k]) rfl rfl rfl fun h5 H5 => ⟨trivial, ?_⟩
    refine ⟨k + 1, by rw [wrap_small _ (by omega) (by omega)]; rfl, ⟨by omega, ?_⟩, by omega⟩
    have hlk : (List.zipWith (· ^^^ ·) (la.take k) (lb.take k)).length = k := by simp; omega
    have e2 : (List.zipWith (· ^^^ ·) (la.take k) (lb.take k) ++ List.replicate (la.length - k) (0 : UInt8)).set k (la[k] ^^^ lb[k]) = List.zipWith (· ^^^ ·) (la.take (k + 1)) (lb.take (k + 1)) ++ List.replicate (la.length - (k + 1)) 0 := by
      rw [List.set_append_right _ _ (by omega), hlk, Nat.sub_self, show la.length - k = la.length - (k + 1) + 1 by omega, List.replicate_succ, List.set_cons_zero, take_snoc _ _ hk', take_snoc _ _ (show k < lb.length by omega), List.zipWith_append (by simp; omega), List.append_assoc]; rfl
    rw [← e2]; exact H5
  · have : k = la.length := by omega
    subst this
    refine ⟨s, rfl, ?_⟩
    rw [List.take_of_length_le (Nat.le_refl _), List.take_of_length_le (by omega), Nat.sub_self, List.replicate_zero, List.append_nil] at H4
    exact H4
theorem axpy_eq (c : UInt8) (a b : Row) : List.zipWith (· ^^^ ·) (scaleB c a) b = addB c a b := by
  unfold scaleB addB
  rw [List.zipWith_map_left]
  congr 1; funext x y; exact UInt8.xor_comm _ _
theorem axpy_spec (f : Addr) (c : UInt8) (a b : Sl) (la lb : Row) (h : Heap) (hf : FieldB h f) (ha : Rd h a 1 u8v la) (hb : Rd h b 1 u8v lb) (hl : la.length = lb.length) (hs : la.length ≤ 2 ^ 30) :
    Meets Tryz.prog row_Axpy_id #[.pointer (some f), .int .u8 c.toNat, .slice a.ptr a.len a.cap, .slice b.ptr b.len b.cap] h fun v h' => ∃ r : Sl, v = .tuple #[.slice r.ptr r.len r.cap, .bool true] ∧ Sp h h' [OwnA T_uint8 r 1 u8v (addB c la lb)] := by
  refine row_Axpy_run (some f) _ a b ?_
  unfold row_Axpy_m
  refine (scale_spec f c a la h hf ha hs).mono ?_
  rintro v h1 ⟨r, rfl, R1⟩
  refine ⟨r, rfl, (sum_spec r b _ lb h1 (R1.seq 0 rfl (fun _ => rfl)) (Seq.up hb R1.pres) (by rw [scale_len]; exact hl) (by rw [scale_len]; exact hs)).mono ?_⟩
  rintro v h2 ⟨w, rfl, R2⟩
  refine ⟨(w, true), rfl, w, rfl, ?_⟩
  rw [← axpy_eq]
  exact (R1.comp R2).take 1 fun i A hi => by cases i with | zero => exact hi | succ i => simp at hi
/-- A span: its rows, of n bytes each. -/
def spanCells (f : Addr) (n : Nat) (hdr : Sl) : List Value := [.pointer (some f), .int .i64 n, .slice hdr.ptr hdr.len hdr.cap]
def SpanA (sp f : Addr) (n : Nat) (M : Mat) : HP := .ex fun hdr : Sl => (BoxA sp T_span_Span (spanCells f n hdr)).sep (RowsE T_sl_uint8 hdr 1 slv (EltS 1 u8v) M)
theorem rest_spec (sp f : Addr) (n : Nat) (hdr r : Sl) (M : Mat) (l : Row) (h : Heap) (hb : Box h sp T_span_Span (spanCells f n hdr)) (hf : FieldB h f) (hM : RdE (EltL (EltS 1 u8v) 1 slv) h hdr M) (hr : Rd h r 1 u8v l)
    (hl : l.length = n) (hn : n ≤ 64) (hev : evenB n M) (hld : ∀ x ∈ M, leadB x < n) (hMl : M.length ≤ 2 ^ 30) :
    Meets Tryz.prog span_Span_Rest_id #[.pointer (some sp), .slice r.ptr r.len r.cap] h fun v h' => ∃ w : Sl, v = .tuple #[.slice w.ptr w.len w.cap, .bool true] ∧ Sp h h' [OwnA T_uint8 w 1 u8v (restB M l)] := by
  refine span_Span_Rest_run (some sp) r ?_
  unfold span_Span_Rest_m
  have hrl := hr.len; have hml := EltL.len hM
  refine join_in ?_
  refine br_b (fun e => by cases e) fun _ => ?_
  refine ⟨sp, rfl, n, hb.cell rfl, br_ne (fun e => by omega) fun _ => ?_⟩
  refine (cloneB_spec r l h hr (by omega)).mono ?_
  rintro v h1 ⟨w, rfl, R1⟩
  refine ⟨w, rfl, sp, rfl, hdr, (hb.pres R1.pres hb.lt).cell rfl, ?_⟩
  refine loop_inv (fun t : Sl × Nat => (t.1, (t.2 : Int))) (fun t h' => t.2 ≤ M.length ∧ Sp h h' [OwnA T_uint8 t.1 1 u8v (restB (M.take t.2) l)]) (fun t => M.length - t.2) (w, 0) rfl ⟨by simp, by simpa [restB] using R1⟩ ?_
  rintro ⟨o, k⟩ h2 ⟨hk, H2⟩
  dsimp only at *
  refine br_dec (fun e => ?_) (fun e => ?_)
  · have hk' : k < M.length := by omega
    have hMk : M[k].length = n := hev _ (List.getElem_mem _)
    have hldk := hld _ (List.getElem_mem hk')
    have hevk : evenB n (M.take k) := fun x hx => hev x (List.mem_of_mem_take hx)
    have hrk := rest_len hevk hl
    have hol := (H2.own 0 rfl).len
    refine EltL.getS (RdE.up hM H2.pres) k rfl hk' fun x hx => ?_
    refine (lead_spec x _ h2 hx (by omega)).mono ?_
    rintro v h3 ⟨rfl, rfl⟩
    refine ⟨_, rfl, ?_⟩
    dsimp only
    rw [if_pos (by omega)]
    refine (H2.seq 0 rfl (fun _ => rfl)).get1 (leadB M[k]) rfl (by omega) _ rfl ?_
    have hcol : (restB (M.take k) l)[leadB M[k]]'(by omega) = colB (restB (M.take k) l) (leadB M[k]) := (col_lt' (by omega)).symm
    have hst : restB (M.take (k + 1)) l = addB (colB (restB (M.take k) l) (leadB M[k])) M[k] (restB (M.take k) l) := by
      unfold restB; rw [take_snoc _ _ hk', List.foldl_append]; rfl
    rw [hcol]
    refine br_ne (fun e2 => ?_) (fun e2 => ?_)
    · refine ⟨sp, rfl, some f, (hb.pres H2.pres hb.lt).cell0 rfl, ?_⟩
      refine (axpy_spec f (colB (restB (M.take k) l) (leadB M[k])) x o M[k] _ h3 (hf.pres H2.pres hf.lt) hx (H2.seq 0 rfl (fun _ => rfl)) (by omega) (by omega)).mono ?_
      rintro v h4 ⟨o', rfl, R4⟩
      refine ⟨(o', true), rfl, ⟨(o', k + 1), by dsimp only; rw [wrap_small _ (by omega) (by omega)]; rfl, ⟨by dsimp only; omega, ?_⟩, by dsimp only; omega⟩⟩
      dsimp only
      rw [hst]
      exact (H2.comp R4).take 1 fun i A hi => by cases i with | zero => exact hi | succ i => simp at hi
    · refine ⟨(o, k + 1), by dsimp only; rw [wrap_small _ (by omega) (by omega)]; rfl, ⟨by dsimp only; omega, ?_⟩, by dsimp only; omega⟩
      have hz : colB (restB (M.take k) l) (leadB M[k]) = 0 := nat0.1 e2
      have : restB (M.take (k + 1)) l = restB (M.take k) l := by
        rw [hst, hz]
        refine row_ext (n := n) (by rw [add_len (by omega)]; exact hrk) hrk fun j _ => ?_
        rw [col_add (by omega), Gf.zero_mul, UInt8.xor_zero]
      dsimp only
      rw [this]; exact H2
  · refine ⟨o, rfl, ?_⟩
    rw [List.take_of_length_le (by omega)] at H2
    exact H2
theorem span_New_spec (f : Addr) (n : Nat) (h : Heap) (hn : n ≤ 64) : Meets Tryz.prog span_New_id #[.pointer (some f), .int .i64 n] h fun v h' => ∃ sp : Addr, v = .pointer (some sp) ∧ Sp h h' [SpanA sp f n []] := by
  refine span_New_run (some f) n ?_
  unfold span_New_m
  refine join_in ?_
  refine br_dec (fun e => by omega) fun _ => br_dec (fun e => by omega) fun _ => ?_
  refine join_in ?_
  refine br_b (fun e => by cases e) fun _ => ?_
  refine (Sp.refl h).boxed fun a h1 H1 => ?_
  refine ⟨a, rfl, ?_⟩
  have H2 := (H1.eNil T_sl_uint8 1 slv (EltS 1 u8v)).join 0 1 (by decide) rfl rfl
  exact (H2.close' (F := fun hdr : Sl => (BoxA a T_span_Span (spanCells f n hdr)).sep (RowsE T_sl_uint8 hdr 1 slv (EltS 1 u8v) [])) 0 ⟨none, 0, 0⟩ rfl).del 1
end Go.Proofs.YtmadbodaleaaeaaGreat

namespace Go.Proofs.YtmadbodaleaaeaaGreat
open Go Go.Vc Go.Proofs Wl
set_option maxRecDepth 100000
/-! ### Spans: one more row; another one, alike -/
theorem SpanA.open {B : Blocks} {h0 h : Heap} {As : List HP} {sp f : Addr} {n : Nat} {M : Mat} (H : SpB B h0 h (SpanA sp f n M :: As)) :
    ∃ hdr : Sl, SpB B h0 h (RowsE T_sl_uint8 hdr 1 slv (EltS 1 u8v) M :: BoxA sp T_span_Span (spanCells f n hdr) :: As) := by
  obtain ⟨hdr, H1⟩ := H.open0
  exact ⟨hdr, H1.split0⟩
theorem SpanA.close {B : Blocks} {h0 h : Heap} {As : List HP} {sp f : Addr} {n : Nat} {M : Mat} {hdr : Sl} (H : SpB B h0 h (RowsE T_sl_uint8 hdr 1 slv (EltS 1 u8v) M :: BoxA sp T_span_Span (spanCells f n hdr) :: As)) :
    SpB B h0 h (SpanA sp f n M :: As) := H.join0.close0 (F := fun hdr : Sl => (BoxA sp T_span_Span (spanCells f n hdr)).sep (RowsE T_sl_uint8 hdr 1 slv (EltS 1 u8v) M)) hdr
theorem span_Rank_spec (sp f : Addr) (n : Nat) (M : Mat) {B : Blocks} {h0 h : Heap} {As : List HP} (H : SpB B h0 h (SpanA sp f n M :: As)) : Meets Tryz.prog span_Span_Rank_id #[.pointer (some sp)] h fun v h' => v = .int .i64 M.length ∧ h' = h := by
  refine span_Span_Rank_run (some sp) ?_
  unfold span_Span_Rank_m
  obtain ⟨hdr, H1⟩ := SpanA.open H
  refine br_b (fun e => by cases e) fun _ => ?_
  exact ⟨sp, rfl, hdr, (H1.box 1 rfl).cell rfl, by rw [(H1.eLen 0 rfl).1], rfl⟩
theorem span_Add_spec (sp f : Addr) (n : Nat) (M : Mat) (r : Sl) (l : Row) {B : Blocks} {h0 h : Heap} {As : List HP} (H : SpB B h0 h (SpanA sp f n M :: As)) (hf : St B h0 As fun h => FieldB h f) (hr : Rd h r 1 u8v l)
    (hl : l.length = n) (hn : n ≤ 64) (hev : evenB n M) (hld : ∀ x ∈ M, leadB x < n) (hMl : M.length ≤ 64) :
    Meets Tryz.prog span_Span_Add_id #[.pointer (some sp), .slice r.ptr r.len r.cap] h fun v h' => (∃ b, v = .bool b) ∧ SpB B h0 h' (SpanA sp f n (addS M l) :: As) := by
  refine span_Span_Add_run (some sp) r ?_
  unfold span_Span_Add_m
  obtain ⟨hdr, H1⟩ := SpanA.open H
  have hrest := rest_len hev hl
  refine (rest_spec sp f n hdr r M l h (H1.box 1 rfl) (hf [_, _] h H1) (H1.eRd 0 rfl (fun _ => rfl)) hr hl hn hev hld (by omega)).mono ?_
  rintro v h1 ⟨w, rfl, R1⟩
  have H2 := H1.comp1 R1
  have hw := R1.seq 0 rfl (fun _ => rfl)
  refine ⟨(w, true), rfl, join_in ?_⟩
  refine br_not (fun e => by cases e) fun _ => ?_
  refine (lead_spec w _ h1 hw (by omega)).mono ?_
  rintro v h2 ⟨rfl, rfl⟩
  refine ⟨_, rfl, ?_⟩
  dsimp only
  by_cases hyes : leadB (restB M l) < (restB M l).length
  · rw [if_pos hyes]
    refine br_f (decide_eq_false (Int.not_lt.2 (Int.natCast_nonneg _))) ?_
    have H3 := H2.eFrom 0 rfl (fun _ => rfl)
    have hbox := H3.box 2 rfl
    refine ⟨sp, rfl, some f, hbox.cell0 rfl, sp, rfl, hdr, hbox.cell rfl, ?_⟩
    have hmm : evenB n (M ++ [restB M l]) := even_snoc hev hrest
    refine H3.litHeld C_ok slv eSlU8 rfl [w] rfl (show 1 * 1 ≤ 2 ^ 20 by decide) rfl ⟨hbox.cell rfl, hbox.cell0 rfl, trivial⟩ ?_
    refine H3.ePush C_ok 1 0 (by decide) rfl rfl eSlU8 rfl (by decide) (fun _ => rfl) one_sl rfl (by decide) (by omega) fun s' h4 H4 => ?_
    have H4' : SpB B h0 h4 (RowsE T_sl_uint8 s' 1 slv (EltS 1 u8v) (M ++ [restB M l]) :: BoxA sp T_span_Span (spanCells f n hdr) :: As) := H4.drop1
    have hb4 := H4'.box 1 rfl
    refine ⟨⟨hb4.cell0 rfl, trivial⟩, ?_⟩
    refine (Reduce_spec f s' _ n h4 (hf [_, _] h4 H4') (EltL.toRd2 (H4'.eRd 0 rfl (fun _ => rfl))) hmm hn (by simp; omega)).mono ?_
    rintro v h5 ⟨q, rs, rfl, hq, hrs, hqm, R5⟩
    have hlen := (reduce_even hmm (widthB (M ++ [restB M l]))).2
    have R6 : Sp h4 h5 [RowsE T_sl_uint8 ⟨q.ptr, rankB (M ++ [restB M l]), q.cap⟩ 1 slv (EltS 1 u8v) (topB (M ++ [restB M l]))] := by
      have := SpB.matRows (As := []) R5 (by rw [hlen]; exact hrs) (fun _ => rfl) (rankB (M ++ [restB M l])) (by rw [hlen]; omega)
      exact this
    have H5 := H4'.comp1 R6
    refine ⟨q, rfl, trivial, sp, rfl, ?_⟩
    refine H5.storeAt C_ok 2 rfl rfl (off := 2) (v := .slice q.ptr q.len q.cap) rfl rfl rfl (by simp [spanCells]) fun h6 H6 => ⟨trivial, ⟨_, rfl⟩, ?_⟩
    have H7 : SpB B h0 h6 (RowsE T_sl_uint8 ⟨q.ptr, rankB (M ++ [restB M l]), q.cap⟩ 1 slv (EltS 1 u8v) (topB (M ++ [restB M l])) :: RowsE T_sl_uint8 s' 1 slv (EltS 1 u8v) (M ++ [restB M l]) :: BoxA sp T_span_Span (spanCells f n ⟨q.ptr, rankB (M ++ [restB M l]), q.cap⟩) :: As) := by
      rw [show q.len = rankB (M ++ [restB M l]) from hq] at H6; exact H6
    rw [addS, if_pos hyes]
    exact SpanA.close H7.drop2
  · rw [if_neg hyes]
    refine br_t (decide_eq_true (by decide)) ⟨⟨_, rfl⟩, ?_⟩
    rw [addS, if_neg hyes]
    exact SpanA.close H2.drop1
theorem spanRows_spec (sp f : Addr) (n : Nat) (M : Mat) (hdr : Sl) (h : Heap) (hb : Box h sp T_span_Span (spanCells f n hdr)) (hrd : RdE (EltL (EltS 1 u8v) 1 slv) h hdr M) (hMl : M.length ≤ 64) (hev : evenB n M) (hn : n ≤ 64) :
    Meets Tryz.prog span_Span_Rows_id #[.pointer (some sp)] h fun v h' => ∃ r : Sl, v = .slice r.ptr r.len r.cap ∧ Sp h h' [RowsE T_sl_uint8 r 1 slv (EltS 1 u8v) M] := by
  refine span_Span_Rows_run (some sp) ?_
  unfold span_Span_Rows_m
  refine br_b (fun e => by cases e) fun _ => ?_
  have hlen := EltL.len hrd
  refine ⟨sp, rfl, hdr, hb.cell rfl, ?_⟩
  refine loop_inv (fun t : Sl × Nat => (t.1, (t.2 : Int))) (fun t h' => t.2 ≤ M.length ∧ Sp h h' [RowsE T_sl_uint8 t.1 1 slv (EltS 1 u8v) (M.take t.2)]) (fun t => M.length - t.2) (⟨none, 0, 0⟩, 0) rfl ⟨by simp, (Sp.refl h).eNil T_sl_uint8 1 slv (EltS 1 u8v)⟩ ?_
  rintro ⟨s, k⟩ h2 ⟨hk, H2⟩
  dsimp only at *
  refine br_dec (fun e => ?_) (fun e => ?_)
  · have hk' : k < M.length := by omega
    have hMk := hev _ (List.getElem_mem hk')
    refine EltL.getS (RdE.up hrd H2.pres) k rfl hk' fun x hx => ?_
    refine (cloneB_spec x M[k] h2 hx (by omega)).mono ?_
    rintro v h3 ⟨c, rfl, R3⟩
    have H3 := (H2.comp1 R3).eFrom 0 rfl (fun _ => rfl)
    refine ⟨c, rfl, ?_⟩
    refine H3.ePush C_ok 1 0 (by decide) rfl rfl eSlU8 rfl (by decide) (fun _ => rfl) one_sl rfl (by decide) (by simp; omega) fun s' h4 H4 => ?_
    refine ⟨(s', k + 1), by dsimp only; rw [wrap_small _ (by omega) (by omega)]; rfl, ⟨by dsimp only; omega, ?_⟩, by dsimp only; omega⟩
    dsimp only
    rw [take_snoc _ _ hk']; exact H4.drop1
  · rw [List.take_of_length_le (by omega)] at H2
    exact ⟨s, rfl, H2⟩
theorem SpanA.rd {B : Blocks} {h0 h : Heap} {As : List HP} {sp f : Addr} {n : Nat} {M : Mat} (H : SpB B h0 h As) (i : Nat) (hi : As[i]? = some (SpanA sp f n M)) : ∃ hdr : Sl, Box h sp T_span_Span (spanCells f n hdr) ∧ RdE (EltL (EltS 1 u8v) 1 slv) h hdr M := by
  obtain ⟨hdr, q1, q2, hd, s1, s2, hb, rs, q3, a, b, c, d, e⟩ := H.at i hi
  exact ⟨hdr, hb.1, rs, a.seq (fun _ => rfl) fun x hx => s2 x (b x hx).1, d, fun i r l h1 h2 => (EltS 1 u8v).mono (e i r l h1 h2) fun x hx => s2 x (c x hx)⟩
theorem spanClone_spec (sp f : Addr) (n : Nat) (M : Mat) (hdr : Sl) (h : Heap) (hb : Box h sp T_span_Span (spanCells f n hdr)) (hrd : RdE (EltL (EltS 1 u8v) 1 slv) h hdr M) (hMl : M.length ≤ 64) (hev : evenB n M) (hn : n ≤ 64) :
    Meets Tryz.prog span_Span_Clone_id #[.pointer (some sp)] h fun v h' => ∃ sp' : Addr, v = .pointer (some sp') ∧ Sp h h' [SpanA sp' f n M] := by
  refine span_Span_Clone_run (some sp) ?_
  unfold span_Span_Clone_m
  refine br_b (fun e => by cases e) fun _ => ?_
  refine ⟨sp, rfl, some f, hb.cell0 rfl, sp, rfl, n, hb.cell rfl, ?_⟩
  have hL : Held.ok [(sp.add 1, (.int .i64 (n : Int))), (sp, (.pointer (some f)))] h := ⟨hb.cell rfl, hb.cell0 rfl, trivial⟩
  refine (spanRows_spec sp f n M hdr h hb hrd hMl hev hn).mono ?_
  rintro v h1 ⟨r, rfl, R1⟩
  have hL1 := held_grow R1.pres hL
  refine ⟨r, rfl, hL1, R1.boxed fun a h2 H3 => ?_⟩
  have H4 : Sp h h2 (BoxA a T_span_Span (spanCells f n r) :: RowsE T_sl_uint8 r 1 slv (EltS 1 u8v) M :: []) := H3.front1
  refine ⟨held_grow H3.pres hL, a, rfl, ?_⟩
  exact SpanA.close H4.swap01
/-! ### Rows of lists; is all told without some? -/
def rowsOf (p : Pm) (seed : Int) (ids : List Int) : Mat := if mayP p then (ids.filter mayID).map (rowI (colsP p).toNat seed) else []
theorem rowsOf_take {p : Pm} {seed : Int} {ids : List Int} {k : Nat} (hk : k < ids.length) : rowsOf p seed (ids.take (k + 1)) = rowsOf p seed (ids.take k) ++ (if (mayP p && mayID ids[k]) = true then [rowI (colsP p).toNat seed ids[k]] else []) := by
  unfold rowsOf
  by_cases hp : mayP p = true
  · rw [if_pos hp, if_pos hp, filter_take_snoc hk]
    by_cases h : mayID ids[k] = true
    · rw [if_pos h, if_pos (by rw [hp, h]; rfl), List.map_append]; rfl
    · rw [if_neg h, if_neg (by simp [h]), List.append_nil]
  · rw [if_neg hp, if_neg hp, if_neg (by simp [hp])]; rfl
theorem rowsOf_even (p : Pm) (seed : Int) (ids : List Int) : evenB (colsP p).toNat (rowsOf p seed ids) := fun r hr => by
  unfold rowsOf at hr
  split at hr
  · obtain ⟨i, _, rfl⟩ := List.mem_map.1 hr; exact rowI_len _ _ _
  · cases hr
theorem rowsOf_len (p : Pm) (seed : Int) (ids : List Int) : (rowsOf p seed ids).length ≤ ids.length := by
  unfold rowsOf
  split
  · rw [List.length_map]; exact List.length_filter_le _ _
  · simp
abbrev EltM : Elt Sl Mat := EltL (EltS 1 u8v) 1 slv
theorem rows_spec (p : Pm) (seed : Int) (w : Sl) (W : List (List Int)) (h : Heap) (hW : RdE (EltL (EltS 1 intv) 1 slv) h w W) (hl : W.length ≤ 2 ^ 20) (hr : ∀ l ∈ W, l.length ≤ 2 ^ 20) :
    Meets Tryz.prog margin_rows_id #[pmv p, .int .u32 seed, .slice w.ptr w.len w.cap] h fun v h' => ∃ r : Sl, v = .slice r.ptr r.len r.cap ∧ Sp h h' [RowsE T_sl_sl_uint8 r 1 slv EltM (W.map (rowsOf p seed))] := by
  refine margin_rows_run p seed w ?_
  unfold margin_rows_m
  obtain ⟨ws, hws, hwn, hwr⟩ := EltL.heads hW
  have hwl := hws.len
  refine (Sp.refl h).boxed fun a h1 H1 => ?_
  refine loop_inv (fun t : Sl × Nat => (t.1, (t.2 : Int))) (fun t h' => t.2 ≤ W.length ∧ Sp h h' [RowsE T_sl_sl_uint8 t.1 1 slv EltM ((W.take t.2).map (rowsOf p seed)), BoxA a T_api_Params [.int .i64 p.1, .int .i64 p.2.1, .int .i64 p.2.2]]) (fun t => W.length - t.2) (⟨none, 0, 0⟩, 0) rfl ⟨by simp, (H1.eNil T_sl_sl_uint8 1 slv EltM).front1⟩ ?_
  rintro ⟨o, k⟩ h2 ⟨hk, H2⟩
  dsimp only at *
  refine br_dec (fun e => ?_) (fun e => ?_)
  · have hk' : k < W.length := by omega
    have hrk := hr _ (List.getElem_mem hk')
    have hx := hwr k (by omega) hk'
    refine (Seq.up hws H2.pres).getH k rfl (by omega) ?_
    generalize ws[k]'(by omega) = x at hx
    have hxl := Seq.len hx
    refine loop_inv (fun t : Sl × Nat => (t.1, (t.2 : Int))) (fun t h' => t.2 ≤ W[k].length ∧ Sp h h' [RowsE T_sl_uint8 t.1 1 slv (EltS 1 u8v) (rowsOf p seed (W[k].take t.2)), RowsE T_sl_sl_uint8 o 1 slv EltM ((W.take k).map (rowsOf p seed)), BoxA a T_api_Params [.int .i64 p.1, .int .i64 p.2.1, .int .i64 p.2.2]]) (fun t => W[k].length - t.2) (⟨none, 0, 0⟩, 0) rfl ⟨by simp, by
        have := (H2.eNil T_sl_uint8 1 slv (EltS 1 u8v)).front1
        have e0 : rowsOf p seed [] = [] := by unfold rowsOf; split <;> rfl
        dsimp only; rw [List.take_zero, e0]; exact this⟩ ?_
    rintro ⟨s, j⟩ h3 ⟨hj, H3⟩
    dsimp only at *
    refine br_dec (fun e2 => ?_) (fun e2 => ?_)
    · have hj' : j < W[k].length := by omega
      refine (Seq.up hx H3.pres).get1 j rfl hj' _ rfl ?_
      refine ⟨p, (H3.box 2 rfl).cells0 _ rfl, (row_spec p seed W[k][j] h3).mono ?_⟩
      rintro v h4 ⟨c, rfl, R4, hnil⟩
      refine ⟨c, rfl, ?_⟩
      have H4 := (H3.comp1 R4).eFrom 0 rfl (fun _ => rfl)
      have hlen4 := rowsOf_len p seed (W[k].take j)
      rw [List.length_take] at hlen4
      refine br_not (fun e3 => ?_) (fun e3 => ?_)
      · rw [hnil] at e3
        have hok : (mayP p && mayID W[k][j]) = true := by simpa using e3
        rw [hok, if_pos rfl] at H4
        refine H4.ePush C_ok 1 0 (by decide) rfl rfl eSlU8 rfl (by decide) (fun _ => rfl) one_sl rfl (by decide) (by omega) fun s' h5 H5 => ?_
        have H5' := H5.drop1
        refine ⟨(s', j + 1), by dsimp only; rw [wrap_small _ (by omega) (by omega)]; rfl, ⟨by dsimp only; omega, ?_⟩, by dsimp only; omega⟩
        dsimp only; rw [rowsOf_take hj', if_pos hok]; exact H5'
      · rw [hnil] at e3
        have hok : ¬ (mayP p && mayID W[k][j]) = true := fun hh => by rw [hh] at e3; cases e3
        refine ⟨(s, j + 1), by dsimp only; rw [wrap_small _ (by omega) (by omega)]; rfl, ⟨by dsimp only; omega, ?_⟩, by dsimp only; omega⟩
        dsimp only; rw [rowsOf_take hj', if_neg hok, List.append_nil]; exact H4.drop1
    · rw [List.take_of_length_le (by omega)] at H3
      have H4 := H3.eFreeze 0 rfl (fun _ => rfl)
      refine H4.ePush C_ok 1 0 (by decide) (E := EltM) (a := s) (b := rowsOf p seed W[k]) rfl rfl (⟨_, _, rfl, rfl, rfl, rfl, rfl, rfl⟩ : ElemOk C.toCfg T_sl_sl_sl_uint8 T_sl_sl_uint8 1 [.slice none 0 0] 24) rfl (by decide) (fun _ => rfl) one_sl rfl (by decide) (by simp; omega) fun s' h5 H5 => ?_
      refine ⟨(s', k + 1), by dsimp only; rw [wrap_small _ (by omega) (by omega)]; rfl, ⟨by dsimp only; omega, ?_⟩, by dsimp only; omega⟩
      dsimp only
      rw [take_snoc _ _ hk', List.map_append]; exact H5.drop1
  · rw [List.take_of_length_le (by omega)] at H2
    exact ⟨o, rfl, H2.drop2⟩
end Go.Proofs.YtmadbodaleaaeaaGreat

namespace Go.Proofs.YtmadbodaleaaeaaGreat
open Go Go.Vc Go.Proofs Wl
set_option maxRecDepth 100000
/-! ### Is all told without some? -/
def allR (R : List Mat) (gone : List Int) : Nat → Mat
  | 0 => []
  | k + 1 => allR R gone k ++ if (k : Int) ∈ gone then [] else R.getD k []
theorem allR_even {n : Nat} {R : List Mat} (hR : ∀ m ∈ R, evenB n m) (gone : List Int) : ∀ k, evenB n (allR R gone k)
  | 0 => fun r hr => by cases hr
  | k + 1 => fun r hr => by
    rcases List.mem_append.1 hr with hr | hr
    · exact allR_even hR gone k r hr
    · split at hr
      · cases hr
      · rw [List.getD_eq_getElem?_getD] at hr
        cases hg : R[k]? with
        | none => rw [hg] at hr; cases hr
        | some m => rw [hg] at hr; exact hR m (List.mem_of_getElem? hg) r hr
theorem allR_sub (R : List Mat) (gone : List Int) : ∀ {j k : Nat}, j ≤ k → ∃ X, allR R gone k = allR R gone j ++ X
  | j, 0, h => ⟨[], by have : j = 0 := by omega
                       subst this; simp⟩
  | j, k + 1, h => by
    by_cases hj : j = k + 1
    · subst hj; exact ⟨[], by simp⟩
    · obtain ⟨X, hX⟩ := allR_sub R gone (j := j) (k := k) (by omega)
      exact ⟨X ++ if (k : Int) ∈ gone then [] else R.getD k [], by rw [allR, hX, List.append_assoc]⟩
theorem rank_all {n : Nat} {m : Mat} (hm : evenB n m) (h : rankB m = n) {m' : Mat} (hm' : evenB n m') (hs : ∀ r ∈ m, r ∈ m') : rankB m' = n := by
  have h1 := rank_le_cols hm'
  have h2 := rank_mono hm hm' hs
  omega
theorem full_m_spec (sp f : Addr) (n : Nat) (M A : Mat) (hdr l g : Sl) (R : List Mat) (gone : List Int) (h : Heap) (hb : Box h sp T_span_Span (spanCells f n hdr)) (hrd : RdE EltM h hdr M) (hf : FieldB h f) (hl : RdE (EltL EltM 1 slv) h l R) (hg : Rd h g 1 intv gone)
    (hn : n ≤ 64) (hok : SpOk n M A) (hR : ∀ m ∈ R, evenB n m ∧ m.length ≤ 2 ^ 20) (hRl : R.length ≤ 2 ^ 20) (hgl : gone.length ≤ 2 ^ 30) :
    Meets Tryz.prog margin_full_id #[.pointer (some sp), .slice l.ptr l.len l.cap, .slice g.ptr g.len g.cap, .int .i64 n] h fun v h' => v = .bool (decide (rankB (A ++ allR R gone R.length) = n)) ∧ Sp h h' [] := by
  refine margin_full_run (some sp) l g n ?_
  unfold margin_full_m
  obtain ⟨ls, hls, hln, hlr⟩ := EltL.heads hl
  have hll := hls.len
  have mlen : ∀ {M' A' : Mat}, SpOk n M' A' → M'.length ≤ 64 := fun x => by have := x.len; have := rank_le_cols x.evenA; omega
  have hfs : St (fun b => b < h.size) h [] fun h' => FieldB h' f := .base hf fun h' hp => hf.pres hp hf.lt
  have evT : evenB n (A ++ allR R gone R.length) := fun r hr => (List.mem_append.1 hr).elim (hok.evenA r) (allR_even (fun m hm => (hR m hm).1) gone _ r)
  refine (spanClone_spec sp f n M hdr h hb hrd (mlen hok) hok.even hn).mono ?_
  rintro v h1 ⟨s, rfl, R1⟩
  refine ⟨some s, rfl, ?_⟩
  refine loop_inv (fun k : Nat => (k : Int)) (fun k h' => k ≤ R.length ∧ ∃ M', SpOk n M' (A ++ allR R gone k) ∧ Sp h h' [SpanA s f n M']) (fun k => R.length - k) 0 rfl ⟨by omega, M, by simpa [allR] using hok, R1⟩ ?_
  rintro k h2 ⟨hk, M2, ok2, H2⟩
  refine br_dec (fun e => ?_) (fun e => ?_)
  · have hk' : k < R.length := by omega
    have hx := hlr k (by omega) hk'
    refine (Seq.up hls H2.pres).getH k rfl (by omega) ?_
    generalize ls[k]'(by omega) = x at hx
    have hRk := hR _ (List.getElem_mem hk')
    refine (contains_spec g gone k h2 (Seq.up hg H2.pres) hgl).mono ?_
    rintro v h3 ⟨rfl, rfl⟩
    refine ⟨_, rfl, br_dec (fun hin => ?_) (fun hout => ?_)⟩
    · refine ⟨k + 1, by rw [wrap_small _ (by omega) (by omega)]; rfl, ⟨by omega, M2, ?_, H2⟩, by omega⟩
      rw [allR, if_pos hin, List.append_nil]; exact ok2
    · obtain ⟨xs, hxs, hxn, hxr⟩ := EltL.heads hx
      have hxl := hxs.len
      have hgk : R.getD k [] = R[k] := by rw [List.getD_eq_getElem?_getD, List.getElem?_eq_getElem hk']; rfl
      refine loop_inv (fun j : Nat => (j : Int)) (fun j h' => j ≤ R[k].length ∧ ∃ M', SpOk n M' ((A ++ allR R gone k) ++ R[k].take j) ∧ Sp h h' [SpanA s f n M']) (fun j => R[k].length - j) 0 rfl ⟨by omega, M2, by simpa using ok2, H2⟩ ?_
      rintro j h4 ⟨hj, M4, ok4, H4⟩
      refine br_dec (fun e2 => ?_) (fun e2 => ?_)
      · have hj' : j < R[k].length := by omega
        have hy := hxr j (by omega) hj'
        refine (Seq.up hxs H4.pres).getH j rfl (by omega) ?_
        generalize xs[j]'(by omega) = y at hy
        refine (span_Rank_spec s f n M4 H4).mono ?_
        rintro v h5 ⟨rfl, rfl⟩
        refine ⟨_, rfl, br_eq (fun e3 => ?_) (fun e3 => ?_)⟩
        · refine ⟨?_, .zip H4.pres⟩
          have e3' : ((M4.length : Nat) : Int) = (n : Int) := e3
          have h6 : rankB ((A ++ allR R gone k) ++ R[k].take j) = n := by have := ok4.len; omega
          have h7 : rankB (A ++ allR R gone R.length) = n := by
            refine rank_all ok4.evenA h6 evT fun r hr => ?_
            obtain ⟨X, hX⟩ := allR_sub R gone (j := k + 1) (k := R.length) (by omega)
            rw [hX, allR, if_neg hout, hgk]
            simp only [List.mem_append] at hr ⊢
            rcases hr with (hr | hr) | hr
            · exact .inl hr
            · exact .inr (.inl (.inl hr))
            · exact .inr (.inl (.inr (List.mem_of_mem_take hr)))
          rw [h7]; simp
        · refine (span_Add_spec s f n M4 y _ H4 hfs (Seq.up hy H4.pres) (hRk.1 _ (List.getElem_mem _)) hn ok4.even ok4.lead (mlen ok4)).mono ?_
          rintro v h6 ⟨⟨b, rfl⟩, H6⟩
          refine ⟨b, rfl, ⟨j + 1, by rw [wrap_small _ (by omega) (by omega)]; rfl, ⟨by omega, _, ?_, H6⟩, by omega⟩⟩
          have := sp_add ok4 (hRk.1 _ (List.getElem_mem hj'))
          rw [take_snoc _ _ hj', ← List.append_assoc]; exact this
      · refine ⟨k + 1, by rw [wrap_small _ (by omega) (by omega)]; rfl, ⟨by omega, M4, ?_, H4⟩, by omega⟩
        rw [List.take_of_length_le (by omega)] at ok4
        rw [allR, if_neg hout, hgk, ← List.append_assoc]; exact ok4
  · have : k = R.length := by omega
    subst this
    refine (span_Rank_spec s f n M2 H2).mono ?_
    rintro v h5 ⟨rfl, rfl⟩
    refine ⟨_, rfl, ?_, .zip H2.pres⟩
    have := ok2.len
    congr 1
    by_cases hh : rankB (A ++ allR R gone R.length) = n
    · rw [decide_eq_true hh]; exact beq_iff_eq.2 (show ((M2.length : Nat) : Int) = n by omega)
    · rw [decide_eq_false hh]; exact beq_eq_false_iff_ne.2 (show ((M2.length : Nat) : Int) ≠ n by omega)
/-! ### All sets, in order -/
def setsI (n t : Nat) : List (List Int) := (setsF t 0 n).map ints
def AllR (n t : Int) (h : Heap) (v : Value) (h' : Heap) : Prop :=
  if 0 ≤ n ∧ n ≤ 64 ∧ 0 ≤ t ∧ t ≤ n then
    if countI n t > 4096 then v = .tuple #[.slice none 0 0, .int .i64 13] ∧ h' = h
    else ∃ r : Sl, v = .tuple #[.slice r.ptr r.len r.cap, .int .i64 0] ∧ Sp h h' [RowsE T_sl_int r 1 slv (EltS 1 intv) (setsI n.toNat t.toNat)]
  else v = .tuple #[.slice none 0 0, .int .i64 1] ∧ h' = h
theorem all_spec (n t : Int) (h : Heap) (hn : 0 ≤ n ∧ n ≤ 2 ^ 30) (ht : (0 : Int) ≤ 0) : Meets Tryz.prog sets_All_id #[.int .i64 n, .int .i64 t] h (AllR n t h) := by
  refine sets_All_run n t ?_
  unfold sets_All_m
  refine (setsRight_spec n t h).mono ?_
  rintro v h1 ⟨rfl, rfl⟩
  refine ⟨_, rfl, br_not (fun e => ?_) (fun e => ?_)⟩
  · show AllR n t h1 _ h1
    unfold AllR; rw [if_neg (of_decide_eq_false e)]; exact ⟨rfl, rfl⟩
  · have e := of_decide_eq_true e
    refine (count_spec n t h1 (by omega) (by omega)).mono ?_
    rintro v h2 ⟨rfl, rfl⟩
    refine ⟨_, rfl, br_dec (fun e2 => ?_) (fun e2 => ?_)⟩
    · show AllR n t h2 _ h2
      unfold AllR; rw [if_pos e, if_pos e2]; exact ⟨rfl, rfl⟩
    · refine (fun hkk => ?_ : (∀ (v : Value) (h' : Heap), (∃ r : Sl, v = .tuple #[.slice r.ptr r.len r.cap, .int .i64 0] ∧ Sp h2 h' [RowsE T_sl_int r 1 slv (EltS 1 intv) (setsI n.toNat t.toNat)]) → AllR n t h2 v h') → _) (fun v h' hx => by unfold AllR; rw [if_pos e, if_neg e2]; exact hx)
      obtain ⟨N, rfl⟩ : ∃ N : Nat, n = N := ⟨n.toNat, by omega⟩
      obtain ⟨T, rfl⟩ : ∃ T : Nat, t = T := ⟨t.toNat, by omega⟩
      have hcnt : (setsF T 0 N).length ≤ 4096 := by
        rw [len_sets N T 0 (by omega)]
        have : countI (N : Int) T = ((min (ch N T) 4097 : Nat) : Int) := by unfold countI; rw [if_pos e]; rfl
        rw [this] at e2
        have e2' : ¬ (((min (ch N T) 4097 : Nat) : Int) > 4096) := e2
        simp; omega
      refine (Sp.refl h2).make C_ok intv eInt (by decide) 0 rfl rfl T T rfl rfl (Nat.le_refl _) (by omega) fun s h3 hsl hsc H3 => ?_
      refine loop_inv (fun k : Nat => (k : Int)) (fun k h' => k ≤ T ∧ Sp h2 h' [OwnA T_int s 1 intv (ints (List.range' 0 k ++ List.replicate (T - k) 0))]) (fun k => T - k) 0 rfl ⟨by omega, by
        have e0 : ints (List.range' 0 0 ++ List.replicate (T - 0) 0) = List.replicate T 0 := by simp [ints]
        rw [e0]; exact H3⟩ ?_
      rintro k h4 ⟨hk, H4⟩
      refine br_dec (fun e3 => ?_) (fun e3 => ?_)
      · have hk' : k < T := by omega
        refine H4.set C_ok 0 rfl (fun _ => rfl) rfl k rfl (by simp [ints]; omega) (k : Int) rfl rfl rfl fun h5 H5 => ?_
        refine ⟨k + 1, by rw [wrap_small _ (by omega) (by omega)]; rfl, ⟨by omega, ?_⟩, by omega⟩
        have e0 : (ints (List.range' 0 k ++ List.replicate (T - k) 0)).set k (k : Int) = ints (List.range' 0 (k + 1) ++ List.replicate (T - (k + 1)) 0) := by
          have : (List.range' 0 k ++ List.replicate (T - k) 0).set k k = List.range' 0 (k + 1) ++ List.replicate (T - (k + 1)) 0 := by
            rw [List.set_append_right _ _ (by simp), List.length_range', Nat.sub_self, show T - k = T - (k + 1) + 1 by omega, List.replicate_succ, List.set_cons_zero, List.range'_concat]
            simp
          rw [← this]; simp [ints, List.map_set]
        rw [e0] at H5; exact H5
      · have : k = T := by omega
        subst this
        rw [Nat.sub_self, List.replicate_zero, List.append_nil] at H4
        refine (clone_int_spec s _ h4 (H4.seq 0 rfl (fun _ => rfl)) (by simp [ints]; omega)).mono ?_
        rintro v h5 ⟨c, rfl, R5⟩
        have H5 := (H4.comp1 R5).eFrom 0 rfl (fun _ => rfl)
        refine ⟨c, rfl, ?_⟩
        refine H5.lit C_ok slv (⟨_, _, rfl, rfl, rfl, rfl, rfl, rfl⟩ : ElemOk C.toCfg T_sl_sl_int T_sl_int 1 [.slice none 0 0] 24) rfl [c] rfl (show 1 * 1 ≤ 2 ^ 20 by decide) rfl fun o h6 H6 => ?_
        have H7 : Sp h2 h6 (RowsE T_sl_int o 1 slv (EltS 1 intv) [ints (List.range' 0 k)] :: OwnA T_int s 1 intv (ints (List.range' 0 k)) :: []) := (H6.eWrap1 (E := EltS 1 intv) (a := c) (b := ints (List.range' 0 k)) 2 0 (by decide) rfl rfl).front1.drop2
        have hen := enum_sets N k 0 (by omega)
        refine loop_inv (fun x : Sl × List (List Nat) × List Nat × List (List Nat) => x.1) (fun x h' => x.2.1 ++ x.2.2.2 = setsF k 0 N ∧ Enum N x.2.2.1 x.2.2.2 ∧ x.2.2.1.length = k ∧ (∀ y ∈ x.2.2.1, y < N) ∧ Sp h2 h' [RowsE T_sl_int x.1 1 slv (EltS 1 intv) ((x.2.1 ++ [x.2.2.1]).map ints), OwnA T_int s 1 intv (ints x.2.2.1)]) (fun x => x.2.2.2.length) (o, [], List.range' 0 k, setsF k 0 N) rfl ⟨rfl, hen, by simp, fun y hy => by rw [List.mem_range'_1] at hy; omega, by simpa using H7⟩ ?_
        rintro ⟨o, done, cur, rest⟩ h8 ⟨h9, h10, h11, h12, H8⟩
        dsimp only at *
        refine (next_spec N s cur H8 1 rfl (by omega) (by omega) h12).mono ?_
        intro v h13 hx
        cases hs : succS N cur with
        | none =>
          rw [hs] at hx
          obtain ⟨rfl, rfl⟩ := hx
          refine ⟨false, rfl, ?_⟩
          refine br_f rfl (hkk _ _ ⟨o, rfl, ?_⟩)
          rw [Int.toNat_natCast, Int.toNat_natCast]
          have : rest = [cur] := by
            cases h10 with
            | last _ => rfl
            | more h _ => rw [hs] at h; cases h
          rw [this] at h9
          unfold setsI
          rw [← h9]; exact H8.drop2
        | some cur' =>
          rw [hs] at hx
          obtain ⟨rfl, H13⟩ := hx
          refine ⟨true, rfl, br_t rfl ?_⟩
          obtain ⟨L, hL, hrest⟩ : ∃ L, Enum N cur' L ∧ rest = cur :: L := by
            cases h10 with
            | last h => rw [hs] at h; cases h
            | more h h' => rw [hs] at h; injection h with h; subst h; exact ⟨_, h', rfl⟩
          have H13' : Sp h2 h13 [RowsE T_sl_int o 1 slv (EltS 1 intv) ((done ++ [cur]).map ints), OwnA T_int s 1 intv (ints cur')] := H13
          have hmem : cur' ∈ setsF k 0 N := by
            rw [← h9, hrest]
            have : cur' ∈ L := by cases hL <;> simp
            simp [this]
          have hm2 := mem_sets hmem
          have hdl : done.length + 2 ≤ (setsF k 0 N).length := by
            rw [← h9, hrest]
            have : 1 ≤ L.length := by cases hL <;> simp
            simp; omega
          refine (clone_int_spec s _ h13 (H13'.seq 1 rfl (fun _ => rfl)) (by rw [ints_len]; omega)).mono ?_
          rintro v h14 ⟨c2, rfl, R14⟩
          have H14 := (H13'.comp1 R14).eFrom 0 rfl (fun _ => rfl)
          refine ⟨c2, rfl, ?_⟩
          refine H14.ePush C_ok 1 0 (by decide) (E := EltS 1 intv) (a := c2) (b := ints cur') rfl rfl (⟨_, _, rfl, rfl, rfl, rfl, rfl, rfl⟩ : ElemOk C.toCfg T_sl_sl_int T_sl_int 1 [.slice none 0 0] 24) rfl (by decide) (fun _ => rfl) one_sl rfl (by decide) (by simp; omega) fun o' h15 H15 => ?_
          refine ⟨(o', done ++ [cur], cur', L), rfl, ⟨by dsimp only; rw [← h9, hrest]; simp, hL, hm2.1, fun y hy => (hm2.2.1 y hy).2, ?_⟩, by dsimp only; rw [hrest]; simp⟩
          have H16 := H15.drop1
          dsimp only
          rw [List.map_append (l₁ := done ++ [cur])]; exact H16
end Go.Proofs.YtmadbodaleaaeaaGreat

namespace Go.Proofs.YtmadbodaleaaeaaGreat
open Go Go.Vc Go.Proofs Wl
set_option maxRecDepth 100000
/-! ### What is left without some lists; the first set without which too little is left -/
def leftI (W : List (List Int)) (gone : List Int) : Nat → List Int
  | 0 => []
  | k + 1 => leftI W gone k ++ if (k : Int) ∈ gone then [] else W.getD k []
def leftRk (p : Pm) (seed : Int) (W : List (List Int)) (gone : List Int) : Nat := rankI p seed (leftI W gone W.length)
theorem rowsOf_app (p : Pm) (seed : Int) (a b : List Int) : rowsOf p seed (a ++ b) = rowsOf p seed a ++ rowsOf p seed b := by
  unfold rowsOf; split <;> simp
theorem allR_rows (p : Pm) (seed : Int) (W : List (List Int)) (gone : List Int) : ∀ k, allR (W.map (rowsOf p seed)) gone k = rowsOf p seed (leftI W gone k)
  | 0 => by simp [allR, leftI, rowsOf]
  | k + 1 => by
    rw [allR, leftI, rowsOf_app, allR_rows p seed W gone k]
    congr 1
    by_cases h : (k : Int) ∈ gone
    · rw [if_pos h, if_pos h]; simp [rowsOf]
    · rw [if_neg h, if_neg h, List.getD_eq_getElem?_getD, List.getElem?_map, List.getD_eq_getElem?_getD]
      cases W[k]? with
      | none => simp [rowsOf]
      | some l => rfl
theorem matI_rows {p : Pm} (hp : mayP p = true) (seed : Int) (ids : List Int) : matI p seed ids = aheadRows p.1.toNat p.2.1.toNat ++ rowsOf p seed ids := by
  unfold matI rowsOf; rw [if_pos hp, if_pos hp]
def weakI (p : Pm) (seed : Int) (W : List (List Int)) (t : Nat) : Option (List Int) := (setsI W.length t).find? fun g => decide ((leftRk p seed W g : Int) ≠ colsP p)
/-- What is told: the set, whether there is one, the error. -/
def weakR (p : Pm) (seed : Int) (W : List (List Int)) (t : Int) : List Int × Bool × Int :=
  if mayP p then
    if 0 ≤ t ∧ t ≤ W.length ∧ W.length ≤ 64 then
      if countI W.length t > 4096 then ([], false, 13)
      else match weakI p seed W t.toNat with
        | some g => (g, true, 0)
        | none => ([], false, 0)
    else ([], false, 1)
  else ([], false, 1)
theorem aheadRows_even (K H : Nat) : evenB (K + H) (aheadRows K H) := fun r hr => by
  obtain ⟨i, _, rfl⟩ := List.mem_map.1 hr; exact aheadRow_len _ _ _
theorem find_take {α : Type} (f : α → Bool) (l : List α) {k : Nat} (hk : k < l.length) (hno : (l.take k).find? f = none) : (l.take (k + 1)).find? f = if f l[k] then some l[k] else none := by
  rw [take_snoc _ _ hk, List.find?_append, hno, Option.none_or, List.find?_cons]
  cases f l[k] <;> rfl
theorem find_more {α : Type} (f : α → Bool) (l : List α) {k : Nat} {x : α} (h : (l.take k).find? f = some x) : l.find? f = some x := by
  have : l = l.take k ++ l.drop k := (List.take_append_drop k l).symm
  rw [this, List.find?_append, h]; rfl
theorem marginWeak_spec (p : Pm) (seed : Int) (w : Sl) (W : List (List Int)) (t : Int) (h : Heap) (hW : RdE (EltL (EltS 1 intv) 1 slv) h w W) (hl : W.length ≤ 2 ^ 20) (hr : ∀ l ∈ W, l.length ≤ 2 ^ 20) (ht : (0 : Int) ≤ 0) :
    Meets Tryz.prog margin_Weak_id #[pmv p, .int .u32 seed, .slice w.ptr w.len w.cap, .int .i64 t] h fun v h' => ∃ r : Sl, v = .tuple #[.slice r.ptr r.len r.cap, .bool (weakR p seed W t).2.1, .int .i64 (weakR p seed W t).2.2] ∧ Sp h h' [EA (EltS 1 intv) r (weakR p seed W t).1] := by
  refine margin_Weak_run p seed w t ?_
  unfold margin_Weak_m
  have hwl := EltL.len hW
  have nilE : ∀ {h1 : Heap}, Pres (fun b => b < h.size) h h1 → Sp h h1 [EA (EltS 1 intv) ⟨none, 0, 0⟩ []] := fun hp => .one hp (Seq.nil _ _ _ _ _ _)
  refine (Sp.refl h).boxed fun a h1 H1 => ?_
  refine ⟨p, (H1.box 0 rfl).cells0 _ rfl, (pre_May_spec p h1).mono ?_⟩
  rintro v h2 ⟨rfl, R2⟩
  have H2 := H1.comp R2
  refine ⟨_, rfl, br_not (fun e => ?_) (fun e => ?_)⟩
  · refine ⟨⟨none, 0, 0⟩, ?_, ?_⟩ <;> (unfold weakR; rw [if_neg (by simpa using e)])
    exact nilE H2.pres
  · have hp : mayP p = true := e
    refine (all_spec (w.len : Int) t h2 (by omega) ht).mono ?_
    intro v h3 hA
    unfold AllR at hA
    rw [hwl] at hA
    have erc : (0 ≤ ((W.length : Nat) : Int) ∧ ((W.length : Nat) : Int) ≤ 64 ∧ 0 ≤ t ∧ t ≤ ((W.length : Nat) : Int)) ↔ (0 ≤ t ∧ t ≤ W.length ∧ W.length ≤ 64) := by omega
    by_cases hc : 0 ≤ t ∧ t ≤ W.length ∧ W.length ≤ 64
    · rw [if_pos (erc.2 hc)] at hA
      by_cases hm : countI W.length t > 4096
      · rw [if_pos hm] at hA
        obtain ⟨rfl, rfl⟩ := hA
        refine ⟨(⟨none, 0, 0⟩, 13), rfl, br_ne (fun _ => ?_) (fun e => by cases e)⟩
        refine ⟨⟨none, 0, 0⟩, ?_, ?_⟩ <;> (unfold weakR; rw [if_pos hp, if_pos hc, if_pos hm])
        exact nilE H2.pres
      · rw [if_neg hm] at hA
        obtain ⟨r, rfl, R3⟩ := hA
        refine ⟨(r, 0), rfl, br_ne (fun e => absurd rfl e) (fun _ => ?_)⟩
        dsimp only
        rw [Int.toNat_natCast] at R3
        have wR : weakR p seed W t = match weakI p seed W t.toNat with | some g => (g, true, 0) | none => ([], false, 0) := by
          unfold weakR; rw [if_pos hp, if_pos hc, if_neg hm]
        obtain ⟨L, hL⟩ : ∃ L, L = setsI W.length t.toNat := ⟨_, rfl⟩
        rw [← hL] at R3
        have hLl : L.length ≤ 4096 := by
          have h6 : countI (W.length : Int) t = ((min (ch W.length t.toNat) 4097 : Nat) : Int) := by unfold countI; rw [if_pos (erc.2 hc)]; rfl
          rw [h6] at hm
          rw [hL, setsI, List.length_map, len_sets _ _ 0 (by omega), Nat.sub_zero]; omega
        have H3 : Sp h h3 [BoxA a T_api_Params [.int .i64 p.1, .int .i64 p.2.1, .int .i64 p.2.2], RowsE T_sl_int r 1 slv (EltS 1 intv) L] := H2.comp R3
        have pp := (mayP_iff p).1 hp
        have hcols : colsP p = p.1 + p.2.1 := colsP_eq hp
        obtain ⟨n, hn⟩ : ∃ n : Nat, colsP p = n := ⟨(colsP p).toNat, by omega⟩
        have hn64 : n ≤ 64 := by omega
        refine ⟨p, (H3.box 0 rfl).cells0 _ rfl, (pre_Cols_spec p h3).mono ?_⟩
        rintro v h4 ⟨rfl, R4⟩
        have H4 := H3.up R4.pres
        refine ⟨_, rfl, (gfNew_spec h4).mono ?_⟩
        rintro v h5 ⟨f, rfl, R5⟩
        have H5 := H4.comp1 R5
        rw [hn]
        refine ⟨some f, rfl, (span_New_spec f n h5 hn64).mono ?_⟩
        rintro v h6 ⟨sp, rfl, R6⟩
        have H6 : Sp h h6 [SpanA sp f n [], BoxA f T_gf_Field fieldCells, BoxA a T_api_Params [.int .i64 p.1, .int .i64 p.2.1, .int .i64 p.2.2], RowsE T_sl_int r 1 slv (EltS 1 intv) L] := H5.comp1 R6
        refine ⟨some sp, rfl, p, (H6.box 2 rfl).cells0 _ rfl, (pre_Rows_spec p h6).mono ?_⟩
        rintro v h7 ⟨ar, rfl, R7⟩
        rw [if_pos hp] at R7
        obtain ⟨A, hAe⟩ : ∃ A, A = aheadRows p.1.toNat p.2.1.toNat := ⟨_, rfl⟩
        rw [← hAe] at R7
        have evA : evenB n A := by
          have := aheadRows_even p.1.toNat p.2.1.toNat
          rw [hAe, show n = p.1.toNat + p.2.1.toNat by omega]; exact this
        have hAl : A.length ≤ 4 := by rw [hAe]; simp [aheadRows]; omega
        have H7 : Sp h h7 [SpanA sp f n [], BoxA f T_gf_Field fieldCells, BoxA a T_api_Params [.int .i64 p.1, .int .i64 p.2.1, .int .i64 p.2.2], RowsE T_sl_int r 1 slv (EltS 1 intv) L, RowsE T_sl_uint8 ar 1 slv (EltS 1 u8v) A] := (H6.comp R7).rowsE 4 rfl
        have mlen : ∀ {M' A' : Mat}, SpOk n M' A' → M'.length ≤ 64 := fun x => by have := x.len; have := rank_le_cols x.evenA; omega
        refine ⟨ar, rfl, ?_⟩
        refine loop_inv (fun k : Nat => (k : Int)) (fun k h' => k ≤ A.length ∧ ∃ M, SpOk n M (A.take k) ∧ Sp h h' [SpanA sp f n M, BoxA f T_gf_Field fieldCells, BoxA a T_api_Params [.int .i64 p.1, .int .i64 p.2.1, .int .i64 p.2.2], RowsE T_sl_int r 1 slv (EltS 1 intv) L, RowsE T_sl_uint8 ar 1 slv (EltS 1 u8v) A]) (fun k => A.length - k) 0 rfl ⟨by omega, [], by simpa using sp_new n, H7⟩ ?_
        rintro k h8 ⟨hk, M, okM, H8⟩
        have hrl := (H8.eLen 4 rfl).1
        refine br_dec (fun e2 => ?_) (fun e2 => ?_)
        · have hk' : k < A.length := by omega
          refine EltL.getS (H8.eRd 4 rfl (fun _ => rfl)) k rfl hk' fun x hx => ?_
          refine (span_Add_spec sp f n M x _ H8 (St.thing 0 rfl fun h' y => y.1) hx (evA _ (List.getElem_mem _)) hn64 okM.even okM.lead (mlen okM)).mono ?_
          rintro v h9 ⟨⟨b, rfl⟩, H9⟩
          refine ⟨b, rfl, ⟨k + 1, by rw [wrap_small _ (by omega) (by omega)]; rfl, ⟨by omega, _, ?_, H9⟩, by omega⟩⟩
          rw [take_snoc _ _ hk']
          exact sp_add okM (evA _ (List.getElem_mem hk'))
        · rw [List.take_of_length_le (by omega)] at okM
          refine ⟨p, (H8.box 2 rfl).cells0 _ rfl, (rows_spec p seed w W h8 (RdE.up hW H8.pres) hl hr).mono ?_⟩
          rintro v h9 ⟨rw_, rfl, R9⟩
          have H9 := H8.comp R9
          refine ⟨rw_, rfl, ?_⟩
          have hRn : ∀ m ∈ W.map (rowsOf p seed), evenB n m ∧ m.length ≤ 2 ^ 20 := fun m hm => by
            obtain ⟨l, hl', rfl⟩ := List.mem_map.1 hm
            refine ⟨?_, Nat.le_trans (rowsOf_len p seed l) (hr l hl')⟩
            have := rowsOf_even p seed l
            rw [hn] at this; exact this
          let bad : List Int → Bool := fun g => decide ((leftRk p seed W g : Int) ≠ colsP p)
          have wI : weakI p seed W t.toNat = L.find? bad := by unfold weakI; rw [← hL]
          have hll := (H9.eLen 3 rfl).1
          refine loop_inv (fun k : Nat => (k : Int)) (fun k h' => k ≤ L.length ∧ (L.take k).find? bad = none ∧ Sp h h' [SpanA sp f n M, BoxA f T_gf_Field fieldCells, BoxA a T_api_Params [.int .i64 p.1, .int .i64 p.2.1, .int .i64 p.2.2], RowsE T_sl_int r 1 slv (EltS 1 intv) L, RowsE T_sl_uint8 ar 1 slv (EltS 1 u8v) A, RowsE T_sl_sl_uint8 rw_ 1 slv EltM (W.map (rowsOf p seed))]) (fun k => L.length - k) 0 rfl ⟨by omega, by simp, H9⟩ ?_
          rintro k h10 ⟨hk10, hno, H10⟩
          refine br_dec (fun e3 => ?_) (fun e3 => ?_)
          · have hk' : k < L.length := by omega
            refine EltL.getC (H10.eRd 3 rfl (fun _ => rfl)) k rfl hk' fun ad x had hcell hx => ?_
            obtain ⟨hdr, hb, hrd⟩ := SpanA.rd H10 0 rfl
            have hgl : L[k].length ≤ 2 ^ 30 := by
              have hLk : L[k] ∈ setsI W.length t.toNat := by
                have h0 : L[k] ∈ L := List.getElem_mem hk'
                generalize L[k] = y at h0
                rw [hL] at h0; exact h0
              obtain ⟨g, hg, hg2⟩ := List.mem_map.1 hLk
              have := (mem_sets hg).1
              rw [← hg2, ints_len, this]
              have := hc.2.1
              have := hc.2.2
              omega
            refine (full_m_spec sp f n M A hdr rw_ x (W.map (rowsOf p seed)) L[k] h10 hb hrd (H10.box 1 rfl) (H10.eRd 5 rfl (fun _ => rfl)) hx hn64 okM hRn (by simp; omega) hgl).mono ?_
            rintro v h11 ⟨rfl, R11⟩
            have hrk : (decide (rankB (A ++ allR (W.map (rowsOf p seed)) L[k] (W.map (rowsOf p seed)).length) = n)) = !bad L[k] := by
              rw [allR_rows, List.length_map, hAe, ← matI_rows hp]
              show _ = !decide ((leftRk p seed W L[k] : Int) ≠ colsP p)
              rw [hn]
              unfold leftRk rankI
              by_cases hh : rankB (matI p seed (leftI W L[k] W.length)) = n
              · simp [hh]
              · rw [decide_eq_false hh, decide_eq_true (by omega)]; rfl
            rw [hrk]
            have H11 := H10.up R11.pres
            refine ⟨_, rfl, br_not (fun e4 => ?_) (fun e4 => ?_)⟩
            · have hb4 : bad L[k] = true := by simpa using e4
              have hf := find_take bad L hk' hno
              rw [if_pos hb4] at hf
              have hw2 : weakR p seed W t = (L[k], true, 0) := by rw [wR, wI, find_more bad L hf]
              refine ⟨x, by rw [hw2], ?_⟩
              rw [hw2]
              have h12 := H11.eFreeze 3 rfl (fun _ => rfl)
              have hcell' := held_up hcell R11.pres
              have h13 := h12.weak (D := EA (EltS 1 intv) x L[k]) 3 rfl fun q hq => EltL.pick hq k hk' had hcell'
              exact h13.take 3 fun i A' hi => by cases i with | zero => exact hi | succ i => simp at hi
            · have hb4 : bad L[k] = false := by simpa using e4
              have hf := find_take bad L hk' hno
              rw [hb4] at hf
              exact ⟨k + 1, by rw [wrap_small _ (by omega) (by omega)]; rfl, ⟨by omega, hf, H11⟩, by omega⟩
          · rw [List.take_of_length_le (by omega)] at hno
            have hw2 : weakR p seed W t = ([], false, 0) := by rw [wR, wI, hno]
            refine ⟨⟨none, 0, 0⟩, by rw [hw2], ?_⟩
            rw [hw2]; exact nilE H10.pres
    · rw [if_neg (fun hh => hc (erc.1 hh))] at hA
      obtain ⟨rfl, rfl⟩ := hA
      refine ⟨(⟨none, 0, 0⟩, 1), rfl, br_ne (fun _ => ?_) (fun e => by cases e)⟩
      refine ⟨⟨none, 0, 0⟩, ?_, ?_⟩ <;> (unfold weakR; rw [if_pos hp, if_neg hc])
      exact nilE H2.pres
theorem marginRank_spec (p : Pm) (seed : Int) (w g : Sl) (W : List (List Int)) (gone : List Int) (h : Heap) (hW : RdE (EltL (EltS 1 intv) 1 slv) h w W) (hg : Rd h g 1 intv gone) (hl : W.length ≤ 2 ^ 8) (hr : ∀ l ∈ W, l.length ≤ 2 ^ 20) (hgl : gone.length ≤ 2 ^ 30) :
    Meets Tryz.prog margin_Rank_id #[pmv p, .int .u32 seed, .slice w.ptr w.len w.cap, .slice g.ptr g.len g.cap] h fun v h' => v = .int .i64 (leftRk p seed W gone) ∧ Sp h h' [] := by
  refine margin_Rank_run p seed w g ?_
  unfold margin_Rank_m
  obtain ⟨ws, hws, hwn, hwr⟩ := EltL.heads hW
  have hwl := hws.len
  have hll : ∀ k, k ≤ W.length → (leftI W gone k).length ≤ k * 2 ^ 20 := by
    intro k
    induction k with
    | zero => intro _; simp [leftI]
    | succ k ih =>
      intro hk
      have h1 := ih (by omega)
      rw [leftI, List.length_append]
      have h2 : (if (k : Int) ∈ gone then [] else W.getD k []).length ≤ 2 ^ 20 := by
        split
        · simp
        · rw [List.getD_eq_getElem?_getD, List.getElem?_eq_getElem (by omega)]; exact hr _ (List.getElem_mem _)
      omega
  refine (Sp.refl h).boxed fun a h1 H1 => ?_
  refine loop_inv (fun t : Sl × Nat => (t.1, (t.2 : Int))) (fun t h' => t.2 ≤ W.length ∧ Sp h h' [OwnA T_int t.1 1 intv (leftI W gone t.2), BoxA a T_api_Params [.int .i64 p.1, .int .i64 p.2.1, .int .i64 p.2.2]]) (fun t => W.length - t.2) (⟨none, 0, 0⟩, 0) rfl ⟨by simp, (H1.nil T_int 1 intv).front1⟩ ?_
  rintro ⟨o, k⟩ h2 ⟨hk, H2⟩
  dsimp only at *
  refine br_dec (fun e => ?_) (fun e => ?_)
  · have hk' : k < W.length := by omega
    have hx := hwr k (by omega) hk'
    refine (Seq.up hws H2.pres).getH k rfl (by omega) ?_
    generalize ws[k]'(by omega) = x at hx
    have hgk : W.getD k [] = W[k] := by rw [List.getD_eq_getElem?_getD, List.getElem?_eq_getElem hk']; rfl
    refine (contains_spec g gone k h2 (Seq.up hg H2.pres) hgl).mono ?_
    rintro v h3 ⟨rfl, rfl⟩
    refine ⟨_, rfl, br_not (fun hout => ?_) (fun hin => ?_)⟩
    · have hout := of_decide_eq_false hout
      have h4 := hll k (by omega)
      have h5 := hr _ (List.getElem_mem hk')
      refine H2.append C_ok 0 rfl eInt ⟨_, _, rfl, rfl⟩ rfl (by decide) (fun _ => rfl) (Seq.up hx H2.pres) one_int (by
        have : k * 2 ^ 20 ≤ 2 ^ 8 * 2 ^ 20 := Nat.mul_le_mul_right _ (by omega)
        omega) fun o' h6 H6 => ?_
      refine ⟨(o', k + 1), by dsimp only; rw [wrap_small _ (by omega) (by omega)]; rfl, ⟨by dsimp only; omega, ?_⟩, by dsimp only; omega⟩
      dsimp only
      rw [leftI, if_neg hout, hgk]; exact H6
    · have hin := of_decide_eq_true hin
      refine ⟨(o, k + 1), by dsimp only; rw [wrap_small _ (by omega) (by omega)]; rfl, ⟨by dsimp only; omega, ?_⟩, by dsimp only; omega⟩
      dsimp only
      rw [leftI, if_pos hin, List.append_nil]; exact H2
  · have : k = W.length := by omega
    subst this
    have h4 := hll W.length (Nat.le_refl _)
    refine ⟨p, (H2.box 1 rfl).cells0 _ rfl, (gf_sys_Rank_spec p seed o _ h2 (H2.seq 0 rfl (fun _ => rfl)) (by
      have : W.length * 2 ^ 20 ≤ 2 ^ 8 * 2 ^ 20 := Nat.mul_le_mul_right _ (by omega)
      omega)).mono ?_⟩
    rintro v h3 ⟨rfl, R3⟩
    exact ⟨_, rfl, rfl, .zip (H2.comp R3).pres⟩
end Go.Proofs.YtmadbodaleaaeaaGreat

namespace Go.Proofs.YtmadbodaleaaeaaGreat
open Go Go.Vc Go.Proofs Wl
set_option maxRecDepth 100000
abbrev eSlInt : ElemOk C.toCfg T_sl_sl_int T_sl_int 1 [.slice none 0 0] 24 := ⟨_, _, rfl, rfl, rfl, rfl, rfl, rfl⟩
theorem weakR_wake : weakR (1, 1, 1) 0 [] 0 = ([], true, 0) := by
  have hp : mayP (1, 1, 1) = true := rfl
  have hr := rankI_nil (p := (1, 1, 1)) 0 hp
  have hc : colsP (1, 1, 1) = 2 := rfl
  unfold weakR
  rw [if_pos hp, if_pos ⟨by decide, by decide, by decide⟩, if_neg (by decide)]
  have : weakI (1, 1, 1) 0 [] (0 : Int).toNat = some [] := by
    unfold weakI
    have e : setsI ([] : List (List Int)).length (0 : Int).toNat = [[]] := rfl
    rw [e]
    have hb : decide ((leftRk (1, 1, 1) 0 [] [] : Int) ≠ colsP (1, 1, 1)) = true := by
      have : leftRk (1, 1, 1) 0 [] [] = rankI (1, 1, 1) 0 [] := rfl
      rw [this, hr, hc]; decide
    rw [List.find?_cons, hb]
  rw [this]
theorem mwakes_spec (h : Heap) : Meets Tryz.prog wellspringlaw27_wakes_id #[] h fun v h' => v = .bool true ∧ Sp h h' [] := by
  refine wellspringlaw27_wakes_run ?_
  unfold wellspringlaw27_wakes_m
  refine (marginWeak_spec (1, 1, 1) 0 ⟨none, 0, 0⟩ [] 0 h (EltL.nil _ _ _ _) (by simp) (fun l hl => by cases hl) (by decide)).mono ?_
  rintro v h1 ⟨r, rfl, R1⟩
  rw [weakR_wake] at R1 ⊢
  refine ⟨(r, true, 0), rfl, br_t rfl (br_t rfl ⟨?_, .zip R1.pres⟩)⟩
  have := (R1.eAt 0 rfl).len
  show Value.bool (((r.len : Nat) : Int) == 0) = _
  rw [this]; rfl
theorem EltL.ofNils {h : Heap} {q : Blocks} {s : Sl} {m : Nat} (x : Vc.Seq h q s 1 slv (List.replicate m (⟨none, 0, 0⟩ : Sl))) : (EltL (EltS 1 intv) 1 slv).p h q s (List.replicate m []) :=
  ⟨_, x, by simp, fun i r l h1 h2 => by
    rw [List.getElem?_replicate] at h1 h2
    split at h1
    · rename_i hi; rw [if_pos hi] at h2; cases h1; cases h2; exact Seq.nil _ _ _ _ _ _
    · cases h1⟩
theorem copy_int_spec (s : Sl) (l : List Int) (h : Heap) (hs : Rd h s 1 intv l) (hl : l.length ≤ 2 ^ 30) : Meets Tryz.prog wellspringkeep_Copy_int_id #[.slice s.ptr s.len s.cap] h fun v h' => ∃ r : Sl, v = .slice r.ptr r.len r.cap ∧ Sp h h' [OwnA T_int r 1 intv l] := by
  refine wellspringkeep_Copy_int_run s ?_
  unfold wellspringkeep_Copy_int_m
  have hsl := hs.len
  rw [wrap_small _ (by omega) (by omega)]
  refine (Sp.refl h).make C_ok intv eInt (by decide) 0 rfl rfl 0 (l.length + 2) rfl (by omega) (by omega) (by omega) fun o h1 hol hoc H1 => ?_
  refine H1.append C_ok 0 rfl eInt ⟨_, _, rfl, rfl⟩ rfl (by decide) (fun _ => rfl) (Seq.up hs H1.pres) one_int (by simp; omega) fun o' h2 H2 => ?_
  exact ⟨o', rfl, H2⟩
theorem copies_int_spec (w : Sl) (W : List (List Int)) (h : Heap) (hW : RdE (EltL (EltS 1 intv) 1 slv) h w W) (hl : W.length ≤ 2 ^ 20) (hr : ∀ l ∈ W, l.length ≤ 2 ^ 20) :
    Meets Tryz.prog wellspringkeep_Copies_int_id #[.slice w.ptr w.len w.cap] h fun v h' => ∃ (r : Sl) (rs : List Sl), v = .slice r.ptr r.len r.cap ∧ rs.length = W.length ∧ Sp h h' (OwnA T_sl_int r 1 slv rs :: ownRows T_int 1 intv rs W) := by
  refine wellspringkeep_Copies_int_run w ?_
  unfold wellspringkeep_Copies_int_m
  obtain ⟨ws, hws, hwn, hwr⟩ := EltL.heads hW
  have hwl := hws.len
  refine loop_inv (fun t : Sl × List Sl => (t.1, (t.2.length : Int))) (fun t h' => t.2.length ≤ W.length ∧ Sp h h' (OwnA T_sl_int t.1 1 slv t.2 :: ownRows T_int 1 intv t.2 (W.take t.2.length))) (fun t => W.length - t.2.length) (⟨none, 0, 0⟩, []) rfl ⟨by simp, by simpa [ownRows] using (Sp.refl h).nil T_sl_int 1 slv⟩ ?_
  rintro ⟨s, rs⟩ h2 ⟨hk, H2⟩
  dsimp only at *
  refine br_dec (fun e => ?_) (fun e => ?_)
  · have hk' : rs.length < W.length := by omega
    have hx := hwr rs.length (by omega) hk'
    refine (Seq.up hws H2.pres).getH rs.length rfl (by omega) ?_
    generalize ws[rs.length]'(by omega) = x at hx
    have hrk := hr _ (List.getElem_mem hk')
    refine (copy_int_spec x _ h2 (Seq.up hx H2.pres) (by omega)).mono ?_
    rintro v h3 ⟨c, rfl, R3⟩
    have H3 := H2.comp R3
    refine ⟨c, rfl, ?_⟩
    refine H3.push C_ok 0 rfl eSlInt rfl (by decide) (fun _ => rfl) one_sl c rfl (by decide) (by omega) fun s' h4 H4 => ?_
    refine ⟨(s', rs ++ [c]), by dsimp only; rw [wrap_small _ (by omega) (by omega)]; simp, ⟨by simp; omega, ?_⟩, by simp; omega⟩
    dsimp only
    rw [show (rs ++ [c]).length = rs.length + 1 by simp, take_snoc _ _ hk', ownRows_snoc (by rw [List.length_take]; omega)]
    exact H4
  · have e2 : W.take rs.length = W := List.take_of_length_le (by omega)
    rw [e2] at H2
    exact ⟨s, rs, rfl, by omega, H2⟩
/-! ### Which IDs stand on which drive -/
def atI (l : List Int) (n i : Nat) : Nat := (IntKind.wrap .i64 ((getI l i).tdiv 3) % (n : Int)).toNat
def whereI (l : List Int) (n : Nat) : Nat → List (List Int)
  | 0 => List.replicate n []
  | i + 1 => (whereI l n i).set (atI l n i) ((whereI l n i).getD (atI l n i) [] ++ [getI (idsOf l 40) i])
theorem where_len (l : List Int) (n : Nat) : ∀ i, (whereI l n i).length = n
  | 0 => by simp [whereI]
  | i + 1 => by rw [whereI, List.length_set, where_len l n i]
theorem where_row (l : List Int) (n : Nat) : ∀ i, ∀ r ∈ whereI l n i, r.length ≤ i
  | 0, r, h => by rw [whereI] at h; rw [(List.mem_replicate.1 h).2]; simp
  | i + 1, r, h => by
    rw [whereI] at h
    rcases List.mem_or_eq_of_mem_set h with h | rfl
    · have := where_row l n i r h; omega
    · rw [List.length_append, List.getD_eq_getElem?_getD]
      cases hg : (whereI l n i)[atI l n i]? with
      | none => simp
      | some x => have := where_row l n i x (List.mem_of_getElem? hg); simp; omega
def whereW (l : List Int) (n : Nat) : List (List Int) := whereI l n (idsOf l 40).length
theorem where_spec (s : Sl) (l : List Int) (n : Nat) (h : Heap) (hs : Rd h s 1 intv l) (hn : 1 ≤ n) (hn2 : n ≤ 64) :
    Meets Tryz.prog wellspringlaw27_Where_id #[.slice s.ptr s.len s.cap, .int .i64 n] h fun v h' => ∃ r : Sl, v = .slice r.ptr r.len r.cap ∧ Sp h h' [RowsE T_sl_int r 1 slv (EltS 1 intv) (whereW l n)] := by
  refine wellspringlaw27_Where_run s n ?_
  unfold wellspringlaw27_Where_m
  have hsl := hs.len
  refine (Sp.refl h).make C_ok slv eSlInt (by decide) ⟨none, 0, 0⟩ rfl rfl n n rfl rfl (Nat.le_refl _) (by omega) fun o h1 hol hoc H1 => ?_
  refine (ids_spec s l 40 h1 (Seq.up hs H1.pres) (by decide)).mono ?_
  rintro v h2 ⟨d, rfl, R2⟩
  have H2 := H1.comp1 R2
  obtain ⟨ids, hids⟩ : ∃ ids, ids = idsOf l 40 := ⟨_, rfl⟩
  rw [← hids] at H2
  have hil : ids.length ≤ 40 := by rw [hids]; simp [idsOf]; omega
  have hil2 : ids.length ≤ l.length := by rw [hids]; simp [idsOf]; omega
  have hdl := (H2.own 0 rfl).len
  refine ⟨d, rfl, ?_⟩
  have e0 : (List.replicate n (⟨none, 0, 0⟩ : Sl)) = List.replicate n ⟨none, 0, 0⟩ := rfl
  have nilRows : Sp h h2 (OwnA T_int d 1 intv ids :: OwnA T_sl_int o 1 slv (List.replicate n ⟨none, 0, 0⟩) :: ownRows T_int 1 intv (List.replicate n ⟨none, 0, 0⟩) (List.replicate n [])) := by
    have key : ∀ m, Sp h h2 (OwnA T_int d 1 intv ids :: OwnA T_sl_int o 1 slv (List.replicate n ⟨none, 0, 0⟩) :: ownRows T_int 1 intv (List.replicate m ⟨none, 0, 0⟩) (List.replicate m [])) := by
      intro m
      induction m with
      | zero => simpa [ownRows] using H2
      | succ m ih =>
        have h5 := ih.nil T_int 1 intv
        have e1 : ownRows T_int 1 intv (List.replicate (m + 1) (⟨none, 0, 0⟩ : Sl)) (List.replicate (m + 1) []) = ownRows T_int 1 intv (List.replicate m ⟨none, 0, 0⟩) (List.replicate m []) ++ [OwnA T_int ⟨none, 0, 0⟩ 1 intv []] := by
          rw [List.replicate_succ', List.replicate_succ', ownRows_snoc (by simp)]
        rw [e1]; exact h5
    exact key n
  refine loop_inv (fun t : Nat × List Sl => (t.1 : Int)) (fun t h' => t.1 ≤ ids.length ∧ t.2.length = n ∧ Sp h h' (OwnA T_int d 1 intv ids :: OwnA T_sl_int o 1 slv t.2 :: ownRows T_int 1 intv t.2 (whereI l n t.1))) (fun t => ids.length - t.1) (0, List.replicate n ⟨none, 0, 0⟩) rfl ⟨by simp, by simp, nilRows⟩ ?_
  rintro ⟨i, rs⟩ h3 ⟨hi, hrl, H3⟩
  dsimp only at *
  have hwl := where_len l n i
  have hrows : rs.length = (whereI l n i).length := by omega
  refine br_dec (fun e => ?_) (fun e => ?_)
  · have hi' : i < ids.length := by omega
    refine (Seq.up hs H3.pres).get1 i rfl (by omega) _ rfl ⟨by decide, ?_⟩
    refine (within_spec _ n h3 (by omega) (by omega)).mono ?_
    rintro v h4 ⟨rfl, rfl⟩
    have hk : IntKind.wrap .i64 ((l[i]'(by omega)).tdiv 3) % (n : Int) = ((atI l n i : Nat) : Int) := by
      unfold atI
      rw [getI_at (show i < l.length by omega)]
      have := Int.emod_nonneg (IntKind.wrap .i64 ((l[i]'(by omega)).tdiv 3)) (show (n : Int) ≠ 0 by omega)
      omega
    have hkn : atI l n i < n := by
      have := Int.emod_lt_of_pos (IntKind.wrap .i64 ((l[i]'(by omega)).tdiv 3)) (show (0 : Int) < n by omega)
      omega
    rw [hk]
    refine ⟨_, rfl, ?_⟩
    dsimp only
    generalize hK : atI l n i = K at *
    have gk := ownRows_get (e := T_int) (k := 1) (f := intv) hrows K (by omega)
    have gk' : (OwnA T_int d 1 intv ids :: OwnA T_sl_int o 1 slv rs :: ownRows T_int 1 intv rs (whereI l n i))[K + 2]? = some (OwnA T_int (rs[K]'(by omega)) 1 intv ((whereI l n i)[K]'(by omega))) := gk
    refine (H3.seq 1 rfl (fun _ => rfl)).getS K rfl (by omega) fun a1 ha1 hb1 => ?_
    refine (H3.seq 0 rfl (fun _ => rfl)).get1 i rfl hi' _ rfl ?_
    have hrow := where_row l n i _ (List.getElem_mem (show K < (whereI l n i).length by omega))
    refine H3.litHeld C_ok intv eInt rfl [ids[i]] rfl (show 1 * 1 ≤ 2 ^ 20 by decide) rfl ⟨ha1, trivial⟩ ?_
    refine H3.push C_ok (K + 2) gk' eInt rfl (by decide) (fun _ => rfl) one_int ids[i] rfl (by decide) (by omega) fun s5 h5 H5 => ⟨trivial, ?_⟩
    refine H5.set C_ok 1 rfl (fun _ => rfl) rfl K rfl (by omega) s5 rfl rfl rfl fun h6 H6 => ⟨trivial, ?_⟩
    refine ⟨(i + 1, rs.set K s5), by dsimp only; rw [wrap_small _ (by omega) (by omega)]; rfl, ⟨by dsimp only; omega, by simp [hrl], ?_⟩, by dsimp only; omega⟩
    dsimp only
    have e2 : whereI l n (i + 1) = (whereI l n i).set K ((whereI l n i)[K]'(by omega) ++ [ids[i]]) := by
      rw [whereI, hK, List.getD_eq_getElem?_getD, List.getElem?_eq_getElem (by omega), ← hids, getI_at hi']; rfl
    rw [e2, ← ownRows_set hrows]
    exact H6
  · have hie : i = ids.length := by omega
    refine ⟨o, rfl, ?_⟩
    have H4 := SpB.matRows (As := [OwnA T_int d 1 intv ids]) H3 hrows (fun _ => rfl) n (by omega)
    have hol2 := (H3.own 1 rfl).len
    rw [List.take_of_length_le (by omega)] at H4
    have e3 : (⟨o.ptr, n, o.cap⟩ : Sl) = o := by obtain ⟨p, l2, c⟩ := o; simp at hol2 ⊢; omega
    rw [e3] at H4
    unfold whereW
    rw [← hids, ← hie]; exact H4.drop1
end Go.Proofs.YtmadbodaleaaeaaGreat
