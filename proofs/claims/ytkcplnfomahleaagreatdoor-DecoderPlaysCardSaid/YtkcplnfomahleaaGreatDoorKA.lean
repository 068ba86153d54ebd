/- Part of the proofs that wellspringlaw14's laws answer true whatever the input reads, and leave it as it was; no condition. -/
import Derived.Test.YtkcplnfomahleaaGreatDoorTabS
import Derived.Test.YtkcplnfomahleaaGreatDoorHpA
import Derived.Test.YtkcplnfomahleaaGreatDoorPlA
import Derived.Test.YtkcplnfomahleaaGreatDoorShelf
import Derived.Test.YtkcplnfomahleaaGreatDoorHsA
set_option linter.unusedVariables false
set_option linter.unusedSimpArgs false
namespace Go.Proofs.YtkcplnfomahleaaGreatDoor
open Go Go.Vc Go.Proofs
set_option maxRecDepth 100000
theorem xor_u8 (a b : UInt8) : IntKind.wrap .u8 ((BitVec.ofInt (IntKind.bits .u8) (a.toNat : Int) ^^^ BitVec.ofInt (IntKind.bits .u8) (b.toNat : Int)).toNat : Nat) = ((a ^^^ b).toNat : Int) := by
  have e : ∀ a : UInt8, BitVec.ofInt (IntKind.bits .u8) (a.toNat : Int) = a.toBitVec := fun a => by
    apply BitVec.eq_of_toNat_eq
    have := UInt8.toNat_lt a
    simp [IntKind.bits]
  rw [e, e]
  have hlt := (a.toBitVec ^^^ b.toBitVec).isLt
  have : ((a ^^^ b).toNat : Int) = ((a.toBitVec ^^^ b.toBitVec).toNat : Int) := rfl
  rw [this]
  show (((a.toBitVec ^^^ b.toBitVec).toNat : Nat) : Int) % 256 = _
  have : (a.toBitVec ^^^ b.toBitVec).toNat < 256 := hlt
  omega
def tri (a : UInt8) : Nat → Int × Int × Int
  | 0 => ((a.toNat : Int), (3 : Int), (0 : Int))
  | 1 => (((Gf.x2 a).toNat : Int), (1 : Int), (a.toNat : Int))
  | _ => (((Gf.x2 (Gf.x2 a)).toNat : Int), (0 : Int), ((Gf.x3 a).toNat : Int))
theorem times3_spec (a : UInt8) (h : Heap) : Meets Tryz.prog gf_times_id #[.int .u8 a.toNat, .int .u8 3] h fun v h' => v = .int .u8 (Gf.x3 a).toNat ∧ h' = h := by
  have key : ∀ n : Nat, n < 256 →
      ((IntKind.wrap .u8 ((BitVec.ofInt (IntKind.bits .u8) (n : Int) &&& (BitVec.ofInt (IntKind.bits .u8) (128 : Int))).toNat : Nat)) != (0 : Int)) = true → IntKind.wrap .u8 ((BitVec.ofInt (IntKind.bits .u8) (IntKind.wrap .u8 ((n : Int) * 2 ^ min (1 : Int).toNat (IntKind.bits .u8))) ^^^ (BitVec.ofInt (IntKind.bits .u8) (27 : Int))).toNat : Nat) = ((Gf.x2 (UInt8.ofNat n)).toNat : Int) := by decide +kernel
  have key2 : ∀ n : Nat, n < 256 →
      ((IntKind.wrap .u8 ((BitVec.ofInt (IntKind.bits .u8) (n : Int) &&& (BitVec.ofInt (IntKind.bits .u8) (128 : Int))).toNat : Nat)) != (0 : Int)) = false → IntKind.wrap .u8 ((n : Int) * 2 ^ min (1 : Int).toNat (IntKind.bits .u8)) = ((Gf.x2 (UInt8.ofNat n)).toNat : Int) := by decide +kernel
  refine gf_times_run _ _ ?_
  unfold gf_times_m
  refine loop_inv (tri a) (fun t h' => h' = h ∧ t ≤ 2) (fun t => 2 - t) 0 rfl ⟨rfl, by omega⟩ ?_
  rintro t h' ⟨rfl, ht⟩
  rcases (show t = 0 ∨ t = 1 ∨ t = 2 by omega) with rfl | rfl | rfl
  · rw [show tri a 0 = ((a.toNat : Int), (3 : Int), (0 : Int)) from rfl]
    dsimp only
    refine br_f (by decide) (join_in (br_t (by decide) ?_))
    refine ⟨by decide, join_in ?_⟩
    refine br_b (fun hb => ?_) (fun hb => ?_)
    · rw [key _ (UInt8.toNat_lt a) hb, UInt8.ofNat_toNat]
      refine ⟨by decide, 1, ?_, ⟨rfl, by decide⟩, by decide⟩
      have := xor_u8 0 a
      simp only [UInt8.zero_xor] at this
      exact Prod.ext rfl (Prod.ext rfl this)
    · rw [key2 _ (UInt8.toNat_lt a) hb, UInt8.ofNat_toNat]
      refine ⟨by decide, 1, ?_, ⟨rfl, by decide⟩, by decide⟩
      have := xor_u8 0 a
      simp only [UInt8.zero_xor] at this
      exact Prod.ext rfl (Prod.ext rfl this)
  · rw [show tri a 1 = (((Gf.x2 a).toNat : Int), (1 : Int), (a.toNat : Int)) from rfl]
    dsimp only
    refine br_f (by decide) (join_in (br_t (by decide) ?_))
    refine ⟨by decide, join_in ?_⟩
    refine br_b (fun hb => ?_) (fun hb => ?_)
    · rw [key _ (UInt8.toNat_lt (Gf.x2 a)) hb, UInt8.ofNat_toNat]
      refine ⟨by decide, 2, ?_, ⟨rfl, by decide⟩, by decide⟩
      refine Prod.ext rfl (Prod.ext rfl ?_)
      have := xor_u8 a (Gf.x2 a)
      rw [UInt8.xor_comm] at this
      exact this
    · rw [key2 _ (UInt8.toNat_lt (Gf.x2 a)) hb, UInt8.ofNat_toNat]
      refine ⟨by decide, 2, ?_, ⟨rfl, by decide⟩, by decide⟩
      refine Prod.ext rfl (Prod.ext rfl ?_)
      have := xor_u8 a (Gf.x2 a)
      rw [UInt8.xor_comm] at this
      exact this
  · exact br_t (b := (0 : Int) == 0) (by decide) ⟨rfl, rfl⟩
def expL : List Int := (List.range 255).map fun i => ((Gf.pw i).toNat : Int)
def logL : List Int := (List.range 256).map fun x => if x = 0 then 0 else ((Gf.lg (UInt8.ofNat x) : Nat) : Int)
theorem expL_len : expL.length = 255 := by simp [expL]
theorem logL_len : logL.length = 256 := by simp [logL]
def fieldCells : List Value := expL.map (Sc.enc (.int .u8)) ++ logL.map (Sc.enc (.int .i64))
abbrev FieldB (h : Heap) (a : Addr) : Prop := Box h a T_gf_Field fieldCells
theorem one_map (k : IntKind) (l : List Int) : (l.map (Sc.enc (.int k))).all (·.oneCell') = true := by
  rw [List.all_map, List.all_eq_true]; intro x _; rfl
theorem powers_spec (h : Heap) : Meets Tryz.prog gf_powers_id #[] h fun v h' => v = .agg (expL.map (Sc.enc (.int .u8))).toArray ∧ Sp h h' [] := by
  refine gf_powers_run ?_
  unfold gf_powers_m
  refine (Sp.refl h).alloc C_ok rfl fun a h1 H1 => ?_
  refine loop_inv (fun i : Nat => (((Gf.pw i).toNat : Int), (i : Int))) (fun i h' => i ≤ 255 ∧ Sp h h' [BoxA a T_255_uint8 (((List.range 255).map fun j => if j < i then ((Gf.pw j).toNat : Int) else 0).map (Sc.enc (.int .u8)))]) (fun i => 255 - i) 0 rfl ⟨by omega, ?_⟩ ?_
  · have e : ((List.range 255).map fun j => if j < 0 then ((Gf.pw j).toNat : Int) else 0).map (Sc.enc (.int .u8)) = List.replicate 255 (.int .u8 0) := by simp; rfl
    rw [e]; exact H1
  · rintro i h2 ⟨hi, H2⟩
    refine br_dec (fun hlt => ?_) (fun hge => ?_)
    · dsimp only at hlt
      refine ⟨⟨by dsimp only; omega, by dsimp only; omega⟩, ?_⟩
      dsimp only
      rw [show ((i : Int).toNat * 1) = i by omega]
      refine H2.storeAt C_ok 0 rfl rfl rfl rfl rfl (by simp; omega) fun h3 H3 => ?_
      refine (times3_spec (Gf.pw i) h3).mono ?_
      rintro v h4 ⟨rfl, rfl⟩
      refine ⟨_, rfl, i + 1, ?_, ⟨by omega, ?_⟩, by omega⟩
      · rw [wrap_small _ (by omega) (by omega)]; rfl
      · have e : ((((List.range 255).map fun j => if j < i then ((Gf.pw j).toNat : Int) else 0).map (Sc.enc (.int .u8))).set i (.int .u8 (Gf.pw i).toNat)) = (((List.range 255).map fun j => if j < i + 1 then ((Gf.pw j).toNat : Int) else 0).map (Sc.enc (.int .u8))) := by
          apply List.ext_getElem?
          intro j
          simp only [List.getElem?_set, List.getElem?_map, List.length_map, List.length_range]
          by_cases hj : i = j
          · subst hj
            have : i < 255 := by omega
            simp [this]
          · by_cases hj2 : j < 255
            · simp only [hj, if_false, List.getElem?_range hj2, Option.map_some]
              by_cases hj3 : j < i
              · rw [if_pos hj3, if_pos (by omega)]
              · rw [if_neg hj3, if_neg (by omega)]
            · simp [hj, hj2]
        rw [← e]; exact H3
    · have hi' : i = 255 := by dsimp only at hge; omega
      subst hi'
      have e : ((List.range 255).map fun j => if j < 255 then ((Gf.pw j).toNat : Int) else 0) = expL := by
        unfold expL
        apply List.map_congr_left
        intro j hj
        rw [if_pos (List.mem_range.1 hj)]
      rw [e] at H2
      have hb := H2.box 0 rfl
      refine ⟨expL, ⟨expL_len, hb.cells0 _ (by rw [List.take_of_length_le (Nat.le_refl _)])⟩, ?_⟩
      refine H2.storeAll C_ok 0 rfl rfl (expL.map (Sc.enc (.int .u8))) rfl (by rw [List.length_map, expL_len]) (one_map _ _) rfl fun h3 H3 => ?_
      have hb3 := H3.box 0 rfl
      exact ⟨expL, ⟨expL_len, hb3.cells0 _ (by rw [List.take_of_length_le (Nat.le_refl _)])⟩, rfl, .zip H3.pres⟩
theorem logs_spec (h : Heap) : Meets Tryz.prog gf_logs_id #[.agg (expL.map (Sc.enc (.int .u8))).toArray] h fun v h' => v = .agg (logL.map (Sc.enc (.int .i64))).toArray ∧ Sp h h' [] := by
  refine gf_logs_run expL ?_
  unfold gf_logs_m
  refine (Sp.refl h).boxed fun a h1 H1 => ?_
  refine H1.alloc C_ok rfl fun a2 h2 H2 => ?_
  have hb := H2.box 0 rfl
  refine ⟨expL, ⟨expL_len, hb.cells0 _ (by show List.take _ (expL.map _) = _; rw [List.take_of_length_le (Nat.le_refl _)])⟩, ?_⟩
  let L : Nat → List Int := fun i => (List.range 256).map fun x => if x ≠ 0 ∧ Gf.lg (UInt8.ofNat x) < i then ((Gf.lg (UInt8.ofNat x) : Nat) : Int) else 0
  refine loop_inv (fun i : Nat => (i : Int)) (fun i h' => i ≤ 255 ∧ Sp h h' [emp, BoxA a2 T_256_int ((L i).map (Sc.enc (.int .i64)))]) (fun i => 255 - i) 0 rfl ⟨by omega, ?_⟩ ?_
  · have e : (L 0).map (Sc.enc (.int .i64)) = List.replicate 256 (.int .i64 0) := by simp [L]; rfl
    rw [e]
    exact H2.weak 0 rfl fun _ _ => trivial
  · rintro i h3 ⟨hi, H3⟩
    refine br_dec (fun hlt => ?_) (fun hge => ?_)
    · have hi' : i < 255 := by omega
      have hp := UInt8.toNat_lt (Gf.pw i)
      refine ⟨((Gf.pw i).toNat : Int), ⟨by omega, by omega, by simp [expL, hi']⟩, ⟨by omega, by omega⟩, ?_⟩
      rw [show (((Gf.pw i).toNat : Int).toNat * 1) = (Gf.pw i).toNat by omega]
      refine H3.storeAt C_ok 1 rfl rfl rfl rfl rfl (by simp [L]; omega) fun h4 H4 => ?_
      refine ⟨i + 1, by rw [wrap_small _ (by omega) (by omega)]; rfl, ⟨by omega, ?_⟩, by omega⟩
      have e : ((L i).map (Sc.enc (.int .i64))).set (Gf.pw i).toNat (.int .i64 i) = (L (i + 1)).map (Sc.enc (.int .i64)) := by
        apply List.ext_getElem?
        intro j
        simp only [List.getElem?_set, List.getElem?_map, List.length_map, List.length_range, L]
        by_cases hj : (Gf.pw i).toNat = j
        · subst hj
          simp only [if_true, List.getElem?_range hp, Option.map_some, hp]
          have hne : (Gf.pw i).toNat ≠ 0 := fun h0 => Gf.pw_ne i hi' (UInt8.toNat_inj.1 h0)
          rw [UInt8.ofNat_toNat, Gf.lg_pw i hi', if_pos ⟨hne, by omega⟩]
        · by_cases hj2 : j < 256
          · simp only [hj, if_false, List.getElem?_range hj2, Option.map_some]
            by_cases hj3 : j = 0
            · simp [hj3]
            · have hn : Gf.lg (UInt8.ofNat j) ≠ i := fun h0 => by
                apply hj
                rw [← h0, Gf.pw_lg _ (fun hz => hj3 (by have := congrArg UInt8.toNat hz; simpa [Nat.mod_eq_of_lt hj2] using this))]
                simp [Nat.mod_eq_of_lt hj2]
              by_cases hl : Gf.lg (UInt8.ofNat j) < i
              · rw [if_pos ⟨hj3, hl⟩, if_pos ⟨hj3, by omega⟩]
              · rw [if_neg fun hh => hl hh.2, if_neg fun hh => hl (by omega)]
          · simp [hj, hj2]
      rw [← e]; exact H4
    · have hi' : i = 255 := by omega
      subst hi'
      have e : L 255 = logL := by
        unfold logL
        apply List.map_congr_left
        intro j hj
        by_cases hj3 : j = 0
        · simp [hj3]
        · rw [if_pos ⟨hj3, Gf.lg_lt _⟩, if_neg hj3]
      rw [e] at H3
      have hb := H3.box 1 rfl
      refine ⟨logL, ⟨logL_len, hb.cells0 _ (by rw [List.take_of_length_le (Nat.le_refl _)])⟩, ?_⟩
      refine H3.storeAll C_ok 1 rfl rfl (logL.map (Sc.enc (.int .i64))) rfl (by rw [List.length_map, logL_len]) (one_map _ _) rfl fun h4 H4 => ?_
      have hb4 := H4.box 1 rfl
      exact ⟨logL, ⟨logL_len, hb4.cells0 _ (by rw [List.take_of_length_le (Nat.le_refl _)])⟩, rfl, .zip H4.pres⟩
theorem gfNew_spec (h : Heap) : Meets Tryz.prog gf_New_id #[] h fun v h' => ∃ a : Addr, v = .pointer (some a) ∧ Sp h h' [BoxA a T_gf_Field fieldCells] := by
  refine gf_New_run ?_
  unfold gf_New_m
  refine (powers_spec h).mono ?_
  rintro v h1 ⟨rfl, H1⟩
  refine ⟨expL, rfl, ?_⟩
  refine H1.alloc C_ok rfl fun a h2 H2 => ?_
  refine H2.storeAll C_ok 0 rfl rfl (expL.map (Sc.enc (.int .u8))) rfl (by rw [List.length_map, expL_len]) (one_map _ _) (by rw [List.length_map, expL_len]; rfl) fun h3 H3 => ?_
  have hb := H3.box 0 rfl
  have hc : cellsAt h3 a 0 (expL.map (Sc.enc (.int .u8))) := hb.cells0 _ (by rw [List.take_of_length_le (Nat.le_refl _)])
  refine ⟨expL, ⟨expL_len, hc⟩, expL, ⟨expL_len, hc⟩, ?_⟩
  refine (logs_spec h3).mono ?_
  rintro v h4 ⟨rfl, H4⟩
  refine ⟨logL, rfl, cellList_ok.2 ⟨(H4.pres).cells hb.lt hc, trivial⟩, _, always_build C_ok (i := _) rfl rfl rfl (cells := fieldCells.toArray) ?_, ?_⟩
  · have hz : ∀ z : List Value, z.length = 511 → Instr.fill (fun n => [(0, 255), (255, 256)][n]?) z.toArray [(0, .agg (expL.map (Sc.enc (.int .u8))).toArray), (1, .agg (logL.map (Sc.enc (.int .i64))).toArray)] = some fieldCells.toArray := by
      intro z hz
      have e : z = [] ++ z.take 255 ++ z.drop 255 := by simp
      conv => lhs; rw [e]
      rw [fill_one (vs := expL.map (Sc.enc (.int .u8))) rfl (by simp [expL_len]) (by simp [expL_len, hz])]
      have e2 : [] ++ expL.map (Sc.enc (.int .u8)) ++ z.drop 255 = expL.map (Sc.enc (.int .u8)) ++ z.drop 255 ++ [] := by simp
      rw [e2, fill_one (vs := logL.map (Sc.enc (.int .i64))) rfl (by simp [expL_len, logL_len]) (by simp [logL_len, hz])]
      simp [Instr.fill, fieldCells]
    exact hz _ rfl
  · have hcl : (Value.agg fieldCells.toArray).cells.toList = fieldCells := rfl
    refine (H3.comp H4).boxed fun a7 h5 H5 => ?_
    have hb5 := H5.box 0 rfl
    exact ⟨cellList_ok.2 ⟨hb5.cells0 _ (by rw [List.take_of_length_le (Nat.le_refl _)]), trivial⟩, a7, rfl, H5.take 1 (fun i A hi => by cases i with | zero => exact hi | succ i => simp at hi)⟩
end Go.Proofs.YtkcplnfomahleaaGreatDoor
namespace Go.Proofs.YtkcplnfomahleaaGreatDoor
open Go Go.Vc Go.Proofs
set_option maxRecDepth 100000
theorem field_exp {h : Heap} {a : Addr} (hf : FieldB h a) (n : Nat) (hn : n < 255) : cellOf h (a.add n) = some (.int .u8 (Gf.pw n).toNat) :=
  hf.cell (by rw [fieldCells, List.getElem?_append_left (by simp [expL_len, hn])]; simp [expL, hn])
theorem field_log {h : Heap} {a : Addr} (hf : FieldB h a) (x : UInt8) (hx : x ≠ 0) : cellOf h ((a.add 255).add x.toNat) = some (.int .i64 (Gf.lg x)) := by
  have ha := hf.addr
  have e : (a.add 255).add x.toNat = a.add (255 + x.toNat) := by rw [ha, add_eq, add_eq, add_eq]; congr 1; omega
  rw [e]
  refine hf.cell ?_
  have hlt := UInt8.toNat_lt x
  have h0 : x.toNat ≠ 0 := fun h0 => hx (UInt8.toNat_inj.1 h0)
  rw [fieldCells, List.getElem?_append_right (by simp [expL_len])]
  simp [expL_len, logL, hlt, h0]
theorem own_field_spec (a : Addr) (h : Heap) : Meets Tryz.prog gf_Field_own_id #[.pointer (some a)] h fun v h' => v = .pointer (some a) ∧ h' = h := by
  refine gf_Field_own_run (some a) ?_
  unfold gf_Field_own_m
  exact br_f rfl ⟨rfl, rfl⟩
theorem mat_sure_spec (a : Addr) (h : Heap) : Meets Tryz.prog mat_sure_id #[.pointer (some a)] h fun v h' => v = .pointer (some a) ∧ h' = h := by
  refine mat_sure_run (some a) ?_
  unfold mat_sure_m
  exact br_f rfl ⟨rfl, rfl⟩
theorem row_sure_spec (a : Addr) (h : Heap) : Meets Tryz.prog row_sure_id #[.pointer (some a)] h fun v h' => v = .pointer (some a) ∧ h' = h := by
  refine row_sure_run (some a) ?_
  unfold row_sure_m
  exact br_f rfl ⟨rfl, rfl⟩
theorem nat0 {x : UInt8} : ((x.toNat : Int) = 0) ↔ x = 0 := ⟨fun h => UInt8.toNat_inj.1 (by simpa using h), fun h => by rw [h]; rfl⟩
theorem mul_spec (a : Addr) (x y : UInt8) (h : Heap) (hf : FieldB h a) : Meets Tryz.prog gf_Field_Mul_id #[.pointer (some a), .int .u8 x.toNat, .int .u8 y.toNat] h fun v h' => v = .int .u8 (Gf.mul x y).toNat ∧ h' = h := by
  refine gf_Field_Mul_run (some a) _ _ ?_
  unfold gf_Field_Mul_m
  refine join_in ?_
  refine br_eq (fun h0 => ⟨by rw [Gf.mul, if_pos (.inl (nat0.1 h0))]; rfl, rfl⟩) (fun hx => ?_)
  refine br_eq (fun h0 => ⟨by rw [Gf.mul, if_pos (.inr (nat0.1 h0))]; rfl, rfl⟩) (fun hy => ?_)
  have hx' : x ≠ 0 := fun h0 => hx (nat0.2 h0)
  have hy' : y ≠ 0 := fun h0 => hy (nat0.2 h0)
  refine (own_field_spec a h).mono ?_
  rintro v h2 ⟨rfl, rfl⟩
  have b1 := UInt8.toNat_lt x; have b2 := UInt8.toNat_lt y
  have l1 := Gf.lg_lt x; have l2 := Gf.lg_lt y
  refine ⟨some a, rfl, a, rfl, ⟨by omega, by omega⟩, (Gf.lg x : Int), ?_, a, rfl, ⟨by omega, by omega⟩, (Gf.lg y : Int), ?_, by decide, a, rfl, ?_⟩
  · rw [show ((x.toNat : Int).toNat * 1) = x.toNat by omega]; exact field_log hf x hx'
  · rw [show ((y.toNat : Int).toNat * 1) = y.toNat by omega]; exact field_log hf y hy'
  rw [wrap_small _ (by omega) (by omega)]
  have e : Int.tmod ((Gf.lg x : Int) + (Gf.lg y : Int)) 255 = (((Gf.lg x + Gf.lg y) % 255 : Nat) : Int) := by
    rw [Int.tmod_eq_emod_of_nonneg (by omega)]; rfl
  rw [e]
  have hlt := Nat.mod_lt (Gf.lg x + Gf.lg y) (show 255 > 0 by decide)
  refine ⟨⟨by omega, by omega⟩, _, ?_, by rw [Gf.mul, if_neg (by simp [hx', hy'])], rfl⟩
  rw [show ((((Gf.lg x + Gf.lg y) % 255 : Nat) : Int).toNat * 1) = (Gf.lg x + Gf.lg y) % 255 by omega]
  exact field_exp hf _ hlt
theorem inv_spec (a : Addr) (x : UInt8) (h : Heap) (hf : FieldB h a) : Meets Tryz.prog gf_Field_Inv_id #[.pointer (some a), .int .u8 x.toNat] h fun v h' => v = .int .u8 (Gf.inv x).toNat ∧ h' = h := by
  refine gf_Field_Inv_run (some a) _ ?_
  unfold gf_Field_Inv_m
  refine br_eq (fun h0 => ⟨by rw [Gf.inv, if_pos (nat0.1 h0)]; rfl, rfl⟩) (fun hx => ?_)
  have hx' : x ≠ 0 := fun h0 => hx (nat0.2 h0)
  refine (own_field_spec a h).mono ?_
  rintro v h2 ⟨rfl, rfl⟩
  have b1 := UInt8.toNat_lt x
  have l1 := Gf.lg_lt x
  refine ⟨some a, rfl, a, rfl, ⟨by omega, by omega⟩, (Gf.lg x : Int), ?_, by decide, a, rfl, ?_⟩
  · rw [show ((x.toNat : Int).toNat * 1) = x.toNat by omega]; exact field_log hf x hx'
  rw [wrap_small _ (by omega) (by omega)]
  have e : Int.tmod (255 - (Gf.lg x : Int)) 255 = (((255 - Gf.lg x) % 255 : Nat) : Int) := by
    rw [Int.tmod_eq_emod_of_nonneg (by omega)]; omega
  rw [e]
  have hlt := Nat.mod_lt (255 - Gf.lg x) (show 255 > 0 by decide)
  refine ⟨⟨by omega, by omega⟩, _, ?_, by rw [Gf.inv, if_neg hx'], rfl⟩
  rw [show ((((255 - Gf.lg x) % 255 : Nat) : Int).toNat * 1) = (255 - Gf.lg x) % 255 by omega]
  exact field_exp hf _ hlt
theorem exp_spec (a : Addr) (n : Int) (h : Heap) (hf : FieldB h a) : Meets Tryz.prog gf_Field_Exp_id #[.pointer (some a), .int .i64 n] h fun v h' => v = .int .u8 (Gf.pw (n % 255).toNat).toNat ∧ h' = h := by
  refine gf_Field_Exp_run (some a) n ?_
  unfold gf_Field_Exp_m
  have h1 := Int.tmod_lt_of_pos n (show (0 : Int) < 255 by decide)
  have h2 : -255 < n.tmod 255 := Int.lt_tmod_of_pos n (by decide)
  have he := tmod_fix n 255 (by decide)
  have hp0 := Int.emod_nonneg n (show (255 : Int) ≠ 0 by decide)
  have hp1 := Int.emod_lt_of_pos n (show (0 : Int) < 255 by decide)
  refine ⟨by decide, join_cut (fun s h' => s = n % 255 ∧ h' = h) ?_ ?_⟩
  · refine br_dec (fun hlt => ?_) (fun hge => ?_)
    · rw [if_pos hlt] at he
      exact ⟨by rw [wrap_small _ (by omega) (by omega), he], rfl⟩
    · rw [if_neg hge] at he
      exact ⟨he.symm, rfl⟩
  · rintro s h' ⟨rfl, rfl⟩
    refine (own_field_spec a h').mono ?_
    rintro v h2 ⟨rfl, rfl⟩
    refine ⟨some a, rfl, a, rfl, ⟨hp0, hp1⟩, _, ?_, rfl, rfl⟩
    rw [Nat.mul_one]
    exact field_exp hf _ (by omega)
abbrev Pm := Int × Int × Int
abbrev pmv (p : Pm) : Value := .agg #[.int .i64 p.1, .int .i64 p.2.1, .int .i64 p.2.2]
end Go.Proofs.YtkcplnfomahleaaGreatDoor
namespace Go.Proofs.YtkcplnfomahleaaGreatDoor
open Go Go.Vc Go.Proofs Wl
theorem pre_May_spec (p : Pm) (h : Heap) : Meets Tryz.prog pre_May_id #[pmv p] h fun v h' => v = .bool (mayP p) ∧ Sp h h' [] := by
  refine pre_May_run p ?_
  unfold pre_May_m
  refine (Sp.refl h).boxed fun a h1 H1 => ?_
  have hb := H1.box 0 rfl
  have hz : Sp h h1 [] := .zip H1.pres
  have c0 : cellOf h1 a = some (.int .i64 p.1) := hb.cell0 rfl
  have c1 : cellOf h1 (a.add 1) = some (.int .i64 p.2.1) := hb.cell rfl
  have c2 : cellOf h1 (a.add 2) = some (.int .i64 p.2.2) := hb.cell rfl
  unfold mayP
  refine ⟨_, c0, br_dec (fun e1 => ?_) (fun e1 => ⟨by rw [decide_eq_false e1]; rfl, hz⟩)⟩
  rw [decide_eq_true e1]
  refine ⟨_, c0, br_dec (fun e1 => ?_) (fun e1 => ⟨by rw [decide_eq_false e1]; rfl, hz⟩)⟩
  rw [decide_eq_true e1]
  refine ⟨_, c1, br_dec (fun e1 => ?_) (fun e1 => ⟨by rw [decide_eq_false e1]; rfl, hz⟩)⟩
  rw [decide_eq_true e1]
  refine ⟨_, c1, br_dec (fun e1 => ?_) (fun e1 => ⟨by rw [decide_eq_false e1]; rfl, hz⟩)⟩
  rw [decide_eq_true e1]
  refine ⟨_, c2, br_dec (fun e1 => ?_) (fun e1 => ⟨by rw [decide_eq_false e1]; rfl, hz⟩)⟩
  rw [decide_eq_true e1]
  exact ⟨_, c2, rfl, hz⟩
theorem pre_Cols_spec (p : Pm) (h : Heap) : Meets Tryz.prog pre_Cols_id #[pmv p] h fun v h' => v = .int .i64 (colsP p) ∧ Sp h h' [] := by
  refine pre_Cols_run p ?_
  unfold pre_Cols_m
  refine (Sp.refl h).boxed fun a h1 H1 => ?_
  refine ⟨p, (H1.box 0 rfl).cells0 _ rfl, ?_⟩
  refine (pre_May_spec p h1).mono ?_
  rintro v h2 ⟨rfl, H2⟩
  have H12 := H1.comp H2
  have hb := H12.box 0 rfl
  refine ⟨_, rfl, br_not (fun e => ⟨by simp [colsP, e], .zip H12.pres⟩) (fun e => ?_)⟩
  refine ⟨_, hb.cell0 rfl, _, hb.cell rfl, ?_, .zip H12.pres⟩
  have := (mayP_iff p).1 e
  rw [wrap_small _ (by omega) (by omega), colsP, if_pos e]
theorem unit_spec (n i : Int) (h : Heap) : Meets Tryz.prog row_Unit_id #[.int .i64 n, .int .i64 i] h fun v h' => ∃ s : Sl, v = .slice s.ptr s.len s.cap ∧
    Sp h h' [OwnA T_uint8 s 1 u8v (if 1 ≤ n ∧ n ≤ 64 ∧ 0 ≤ i ∧ i < n then (List.replicate n.toNat (0 : UInt8)).set i.toNat 1 else [])] := by
  refine row_Unit_run n i ?_
  unfold row_Unit_m
  have no : ∀ c : Prop, ¬ c → [Decidable c] → Sp h h [OwnA T_uint8 ⟨none, 0, 0⟩ 1 u8v (if c then (List.replicate n.toNat (0 : UInt8)).set i.toNat 1 else [])] := fun c hc _ => by
    rw [if_neg hc]; exact (Sp.refl h).nil T_uint8 1 u8v
  refine join_in ?_
  refine br_dec (fun e => ⟨⟨none, 0, 0⟩, rfl, no _ (by omega)⟩) (fun e1 => ?_)
  refine br_dec (fun e => ⟨⟨none, 0, 0⟩, rfl, no _ (by omega)⟩) (fun e2 => ?_)
  refine br_dec (fun e => ⟨⟨none, 0, 0⟩, rfl, no _ (by omega)⟩) (fun e3 => ?_)
  refine br_dec (fun e => ⟨⟨none, 0, 0⟩, rfl, no _ (by omega)⟩) (fun e4 => ?_)
  refine (Sp.refl h).make C_ok u8v ⟨_, _, rfl, rfl, rfl, rfl, rfl, rfl⟩ (by decide) 0 rfl rfl n.toNat n.toNat (by omega) (by omega) (Nat.le_refl _) (by omega) fun s h1 hl hc H1 => ?_
  refine H1.set C_ok 0 rfl (fun _ => rfl) rfl i.toNat (by omega) (by simp; omega) 1 rfl rfl rfl fun h2 H2 => ?_
  refine ⟨s, rfl, ?_⟩
  rw [if_pos (by omega)]
  exact H2
end Go.Proofs.YtkcplnfomahleaaGreatDoor
namespace Go.Proofs.YtkcplnfomahleaaGreatDoor
open Go Go.Vc Go.Proofs Wl
set_option maxRecDepth 100000
theorem draw_New_spec (s : Int) (h : Heap) : Meets Tryz.prog draw_New_id #[.int .u32 s] h fun v h' => ∃ a : Addr, v = .pointer (some a) ∧ Sp h h' [BoxA a T_draw_Draw [.int .u64 (IntKind.wrap .u64 s)]] := by
  refine draw_New_run s ?_
  unfold draw_New_m
  exact (Sp.refl h).boxed fun a h1 H1 => ⟨a, rfl, H1⟩
theorem draw_Next_spec (a : Addr) (s : Int) (h : Heap) (hb : Box h a T_draw_Draw [.int .u64 s]) : Meets Tryz.prog draw_Draw_Next_id #[.pointer (some a)] h fun v h' => v = .int .u32 (told s) ∧ Box h' a T_draw_Draw [.int .u64 (nxt s)] ∧ Pres (· ≠ a.block) h h' := by
  refine draw_Draw_Next_run (some a) ?_
  unfold draw_Draw_Next_m
  refine br_f rfl ⟨a, rfl, s, hb.cell0 rfl, a, rfl, ?_⟩
  refine run_store0 C_ok hb rfl _ rfl rfl rfl (Nat.le_refl _) fun h1 hb1 hp1 _ => ?_
  exact ⟨a, rfl, _, hb1.cell0 rfl, by decide, rfl, hb1, hp1⟩
theorem below_spec (a : Addr) (s n : Int) (h : Heap) (hb : Box h a T_draw_Draw [.int .u64 s]) (hn : 0 < n) (hn2 : n ≤ 2 ^ 62) : Meets Tryz.prog draw_Draw_Below_id #[.pointer (some a), .int .i64 n] h fun v h' => v = .int .i64 (belowI s n) ∧ Box h' a T_draw_Draw [.int .u64 (nxt s)] ∧ Pres (· ≠ a.block) h h' := by
  refine draw_Draw_Below_run (some a) n ?_
  unfold draw_Draw_Below_m
  refine join_in (br_f rfl (br_dec (fun e => by omega) fun _ => ?_))
  refine (draw_Next_spec a s h hb).mono ?_
  rintro v h1 ⟨rfl, hb1, hp1⟩
  exact ⟨_, rfl, by rw [wrap_u64]; omega, rfl, hb1, hp1⟩
theorem i64_add (a b : Nat) (h1 : a ≤ 2 ^ 40) (h2 : b ≤ 2 ^ 40) : IntKind.wrap .i64 ((a : Int) + (b : Int)) = ((a + b : Nat) : Int) := by
  rw [wrap_small _ (by omega) (by omega)]; rfl
theorem root_spec (l : Nat) (h : Heap) (hl : l ≤ 20) : Meets Tryz.prog soliton_root_id #[.int .i64 l] h fun v h' => v = .int .i64 (rootI l) ∧ h' = h := by
  have k1 : ∀ l : Nat, l ≤ 20 → ∀ r : Nat, r ≤ 5 → (∀ j, j < r → j * j < l) → r * r < l → r < 5 := by decide
  have k2 : ∀ l : Nat, l ≤ 20 → ∀ r : Nat, r ≤ 5 → (∀ j, j < r → j * j < l) → ¬ r * r < l → r = rootI l := by decide
  refine soliton_root_run l ?_
  unfold soliton_root_m
  refine loop_inv (fun r : Nat => (r : Int)) (fun r h' => h' = h ∧ r ≤ 5 ∧ ∀ j, j < r → j * j < l) (fun r => 5 - r) 0 rfl ⟨rfl, by omega, fun j hj => by omega⟩ ?_
  rintro r h' ⟨rfl, hr, hj⟩
  have hsq : r * r ≤ 25 := Nat.mul_le_mul hr hr
  have e : IntKind.wrap .i64 ((r : Int) * (r : Int)) = ((r * r : Nat) : Int) := by rw [← Int.natCast_mul]; exact i64_of_nat _ (by omega)
  rw [e]
  refine br_dec (fun hlt => ?_) (fun hge => ?_)
  · have hlt' : r * r < l := by omega
    have h5 := k1 l hl r hr hj hlt'
    refine ⟨r + 1, by rw [wrap_small _ (by omega) (by omega)]; rfl, ⟨rfl, by omega, fun j hj' => ?_⟩, by omega⟩
    rcases Nat.lt_succ_iff_lt_or_eq.1 hj' with hj' | rfl
    · exact hj j hj'
    · exact hlt'
  · exact ⟨by rw [k2 l hl r hr hj (by omega)], rfl⟩
theorem bits_spec (r : Nat) (h : Heap) (hr : r ≤ 5) : Meets Tryz.prog math_bits_Len_id #[.int .u64 r] h fun v h' => v = .int .i64 (bitsI r) ∧ h' = h := by
  intro w hw
  refine (Tryz.bits_Len (r : Int) w (by omega) (by omega)).mono ?_
  rintro e w' ⟨rfl, rfl⟩
  have k : ∀ r : Nat, r ≤ 5 → Lib.bitLen r = bitsI r := by decide +kernel
  exact ⟨_, rfl, Like.refl _, by rw [Int.toNat_natCast, k r hr], hw⟩
theorem weight_spec (l k : Nat) (h : Heap) (hl : l ≤ 20) (hl1 : 1 ≤ l) (hk : k ≤ 20) (hk1 : 1 ≤ k) : Meets Tryz.prog soliton_weight_id #[.int .i64 l, .int .i64 k] h fun v h' => v = .int .i64 (weightI l k) ∧ h' = h := by
  have c1 : ∀ k : Nat, k ≤ 20 → 1 < k → IntKind.wrap .i64 ((k : Int) * IntKind.wrap .i64 ((k : Int) - 1)) = ((k * (k - 1) : Nat) : Int) ∧ k * (k - 1) ≠ 0 := by decide
  have c2 : ∀ l : Nat, l ≤ 20 → 1 ≤ l → 1 ≤ rootI l ∧ rootI l ≤ 5 := by decide
  have c3 : ∀ l : Nat, l ≤ 20 → 1 ≤ l → IntKind.wrap .i64 (Int.tdiv (l : Int) (rootI l)) = ((l / rootI l : Nat) : Int) := by decide
  have c4 : ∀ l : Nat, l ≤ 20 → 1 ≤ l → ∀ k : Nat, k ≤ 20 → 1 ≤ k → IntKind.wrap .i64 ((l : Int) * k) ≠ 0 := by decide +kernel
  have c5 : ∀ k : Nat, k ≤ 20 → 1 < k → IntKind.wrap .i64 (Int.tdiv (1048576 : Int) (IntKind.wrap .i64 ((k : Int) * IntKind.wrap .i64 ((k : Int) - 1)))) = ((1048576 / (k * (k - 1)) : Nat) : Int) := by decide +kernel
  have c6 : ∀ l : Nat, l ≤ 20 → 1 ≤ l → IntKind.wrap .i64 (Int.tdiv (1048576 : Int) (l : Int)) = ((1048576 / l : Nat) : Int) := by decide +kernel
  have c7 : ∀ l : Nat, l ≤ 20 → 1 ≤ l → ∀ k : Nat, k ≤ 20 → 1 ≤ k → IntKind.wrap .i64 (Int.tdiv (IntKind.wrap .i64 ((1048576 : Int) * rootI l)) (IntKind.wrap .i64 ((l : Int) * k))) = ((1048576 * rootI l / (l * k) : Nat) : Int) := by decide +kernel
  have c8 : ∀ l : Nat, l ≤ 20 → 1 ≤ l → IntKind.wrap .i64 (Int.tdiv (IntKind.wrap .i64 ((IntKind.wrap .i64 ((1048576 : Int) * rootI l)) * bitsI (rootI l))) (l : Int)) = ((1048576 * rootI l * bitsI (rootI l) / l : Nat) : Int) := by decide +kernel
  have c9 : ∀ l : Nat, l ≤ 20 → ∀ k : Nat, k ≤ 20 → 1048576 * rootI l / (l * k) ≤ 2 ^ 30 ∧ 1048576 * rootI l * bitsI (rootI l) / l ≤ 2 ^ 30 ∧ 1048576 / (k * (k - 1)) ≤ 2 ^ 30 ∧ 1048576 / l ≤ 2 ^ 30 := by decide +kernel
  refine soliton_weight_run l k ?_
  unfold soliton_weight_m
  have hw := c9 l hl k hk
  refine (root_spec l h hl).mono ?_
  rintro v h1 ⟨rfl, rfl⟩
  have hr := c2 l hl hl1
  refine ⟨_, rfl, by omega, join_cut (fun s h' => s = (((if k > 1 then 1048576 / (k * (k - 1)) else 1048576 / l) : Nat) : Int) ∧ h' = h1) ?_ ?_⟩
  · refine br_dec (fun e => ?_) (fun e => ?_)
    · have := c1 k hk (by omega)
      refine ⟨by rw [this.1]; omega, by rw [c5 k hk (by omega), if_pos (by omega)], rfl⟩
    · refine ⟨by rw [c6 l hl hl1, if_neg (by omega)], rfl⟩
  · rintro s h2 ⟨rfl, rfl⟩
    have hb : (if k > 1 then 1048576 / (k * (k - 1)) else 1048576 / l) ≤ 2 ^ 30 := by split <;> first | exact hw.2.2.1 | exact hw.2.2.2
    refine join_in ?_; dsimp only
    refine ⟨show ((rootI l : Nat) : Int) ≠ 0 by omega, ?_⟩
    rw [c3 l hl hl1]
    refine br_dec (fun e => ⟨c4 l hl hl1 k hk hk1, ?_, rfl⟩) (fun e => ?_)
    · rw [c7 l hl hl1 k hk hk1, i64_add _ _ (by omega) (Nat.le_trans hw.1 (by decide)), weightI, if_pos (c := k < l / rootI l) (Int.ofNat_lt.1 e)]
    · refine br_eq (fun e2 => ?_) (fun e2 => ?_)
      · have e3 : IntKind.wrap .u64 (rootI l : Int) = (rootI l : Int) := by rw [wrap_u64]; omega
        rw [e3]
        refine (bits_spec (rootI l) h2 hr.2).mono ?_
        rintro v h3 ⟨rfl, rfl⟩
        refine ⟨_, rfl, by omega, ?_, rfl⟩
        rw [c8 l hl hl1, i64_add _ _ (by omega) (Nat.le_trans hw.2.1 (by decide)), weightI, if_neg (c := k < l / rootI l) (fun hh => e (Int.ofNat_lt.2 hh)), if_pos (c := k = l / rootI l) (Int.ofNat_inj.1 e2)]
      · exact ⟨by rw [weightI, if_neg (c := k < l / rootI l) (fun hh => e (Int.ofNat_lt.2 hh)), if_neg (c := k = l / rootI l) (fun hh => e2 (Int.ofNat_inj.2 hh)), Nat.add_zero], rfl⟩
abbrev eInt : ElemOk C.toCfg T_sl_int T_int 1 [.int .i64 0] 8 := ⟨_, _, rfl, rfl, rfl, rfl, rfl, rfl⟩
abbrev eU8 : ElemOk C.toCfg T_sl_uint8 T_uint8 1 [.int .u8 0] 1 := ⟨_, _, rfl, rfl, rfl, rfl, rfl, rfl⟩
abbrev eSlU8 : ElemOk C.toCfg T_sl_sl_uint8 T_sl_uint8 1 [.slice none 0 0] 24 := ⟨_, _, rfl, rfl, rfl, rfl, rfl, rfl⟩
theorem table_spec (l : Nat) (h : Heap) (hl : l ≤ 20) (hl1 : 1 ≤ l) : Meets Tryz.prog soliton_Table_id #[.int .i64 l] h fun v h' => ∃ s : Sl, v = .slice s.ptr s.len s.cap ∧ Sp h h' [OwnA T_int s 1 intv (tableI l)] := by
  refine soliton_Table_run l ?_
  unfold soliton_Table_m
  refine join_in (br_dec (fun e => by omega) fun _ => br_dec (fun e => by omega) fun _ => ?_)
  refine (Sp.refl h).make C_ok intv eInt (by decide) 0 rfl rfl 0 l rfl rfl (by omega) (by omega) fun s h1 hl' hc H1 => ?_
  refine loop_inv (fun t : Sl × Nat => (t.1, ((sumI l t.2 : Nat) : Int), ((t.2 + 1 : Nat) : Int))) (fun t h' => t.2 ≤ l ∧ Sp h h' [OwnA T_int t.1 1 intv ((tableI l).take t.2)]) (fun t => l - t.2) (s, 0) rfl ⟨by simp, by simpa using H1⟩ ?_
  rintro ⟨s, k⟩ h2 ⟨hk, H2⟩
  dsimp only at *
  refine br_dec (fun e => ?_) (fun e => ?_)
  · refine (weight_spec l (k + 1) h2 hl hl1 (by omega) (by omega)).mono ?_
    rintro v h3 ⟨rfl, rfl⟩
    refine ⟨_, rfl, ?_⟩
    have b1 := sumI_le l hl k (by omega)
    have b2 := weightI_le l hl (k + 1) (by omega)
    have e2 : IntKind.wrap .i64 ((sumI l k : Int) + (weightI l (k + 1) : Int)) = ((sumI l (k + 1) : Nat) : Int) := by rw [wrap_small _ (by omega) (by omega), sumI]; rfl
    dsimp only
    rw [e2]
    refine H2.push C_ok 0 rfl eInt rfl (by decide) (fun _ => rfl) one_int _ rfl (by decide) (by rw [List.length_take]; omega) fun s' h4 H4 => ?_
    refine ⟨(s', k + 1), by dsimp only; rw [wrap_small _ (by omega) (by omega)]; rfl, ⟨by dsimp only; omega, ?_⟩, by dsimp only; omega⟩
    have e3 : (tableI l).take (k + 1) = (tableI l).take k ++ [((sumI l (k + 1) : Nat) : Int)] := by
      rw [take_snoc _ _ (by rw [tableI_len]; omega)]; simp [tableI]
    dsimp only; rw [e3]; exact H4
  · refine ⟨s, rfl, ?_⟩
    rw [List.take_of_length_le (by rw [tableI_len]; omega)] at H2
    exact H2
theorem degree_spec {p : Blocks} (t : Sl) (lt : List Int) (x last : Int) (h : Heap) (ht : Seq h p t 1 intv lt) (hx : 0 ≤ x) (hlast : lt.getLast? = some last) (hxl : x < last) (hs : lt.length ≤ 2 ^ 40) :
    Meets Tryz.prog soliton_Degree_id #[.slice t.ptr t.len t.cap, .int .i64 x] h fun v h' => v = .int .i64 (degI lt x) ∧ h' = h := by
  refine soliton_Degree_run t x ?_
  unfold soliton_Degree_m
  have hl := ht.len
  have hne : lt ≠ [] := fun e => by rw [e] at hlast; cases hlast
  have hpos : 0 < lt.length := List.length_pos_iff.2 hne
  have hla : lt[lt.length - 1] = last := by rw [List.getLast?_eq_getElem?, List.getElem?_eq_getElem (by omega)] at hlast; simpa using hlast
  refine join_in (br_eq (fun e => by omega) fun _ => br_dec (fun e => by omega) fun _ => ?_)
  rw [wrap_small _ (by omega) (by omega)]
  refine ht.get1 (lt.length - 1) (by omega) (by omega) _ rfl ?_
  rw [hla]
  refine br_dec (fun e => by omega) fun _ => ?_
  have hfi : (lt.findIdx fun y => decide (y > x)) < lt.length := List.findIdx_lt_length_of_exists ⟨last, List.mem_of_getLast? hlast, by simpa using hxl⟩
  refine loop_inv (fun k : Nat => (k : Int)) (fun k h' => h' = h ∧ k ≤ (lt.findIdx fun y => decide (y > x))) (fun k => lt.length - k) 0 rfl ⟨rfl, by omega⟩ ?_
  rintro k h' ⟨rfl, hk⟩
  refine br_dec (fun e => ?_) (fun e => by omega)
  have hk' : k < lt.length := by omega
  refine ht.get1 k rfl hk' _ rfl ?_
  rw [wrap_small _ (by omega) (by omega)]
  refine br_dec (fun e2 => ?_) (fun e2 => ?_)
  · have : (lt.findIdx fun y => decide (y > x)) = k := Nat.le_antisymm (Nat.le_of_not_lt fun hlt => by have := List.not_of_lt_findIdx hlt; simp at this; omega) hk
    exact ⟨by rw [degI, this]; rfl, rfl⟩
  · refine ⟨k + 1, rfl, ⟨rfl, ?_⟩, by omega⟩
    refine Nat.lt_of_le_of_ne hk fun he => ?_
    have := List.findIdx_getElem (xs := lt) (p := fun y => decide (y > x)) (w := hfi)
    simp only [← he] at this
    simp at this; omega
theorem soliton_Draw_spec (t : Sl) (n : Nat) (a : Addr) (s : Int) (h : Heap) (ht : Seq h (· ≠ a.block) t 1 intv (tableI n)) (hb : Box h a T_draw_Draw [.int .u64 s]) (hn1 : 1 ≤ n) (hn : n ≤ 20) :
    Meets Tryz.prog soliton_Draw_id #[.slice t.ptr t.len t.cap, .pointer (some a)] h fun v h' => v = .int .i64 (degOf s n) ∧ Box h' a T_draw_Draw [.int .u64 (nxt s)] ∧ Pres (· ≠ a.block) h h' := by
  refine soliton_Draw_run t (some a) ?_
  unfold soliton_Draw_m
  have hl := ht.len
  rw [tableI_len] at hl
  refine br_eq (fun e => by omega) fun _ => ?_
  rw [wrap_small _ (by omega) (by omega)]
  refine ht.get1 (n - 1) (by omega) (by rw [tableI_len]; omega) _ rfl ?_
  have e1 : (tableI n)[n - 1]'(by rw [tableI_len]; omega) = ((sumI n n : Nat) : Int) := by simp only [tableI, List.getElem_map, List.getElem_range]; rw [show n - 1 + 1 = n by omega]
  rw [e1]
  have hp := sumI_pos n hn hn1
  have hs2 := sumI_le n hn n hn
  refine (below_spec a s _ h hb (by omega) (by omega)).mono ?_
  rintro v h1 ⟨rfl, hb1, hp1⟩
  have hbl := below_lt s (sumI n n) (by omega) (by omega)
  refine ⟨_, rfl, (degree_spec t (tableI n) _ _ h1 (ht.pres hp1) hbl.1 (table_last n hn1) hbl.2 (by rw [tableI_len]; omega)).mono ?_⟩
  rintro v h2 ⟨rfl, rfl⟩
  exact ⟨_, rfl, rfl, hb1, hp1⟩
end Go.Proofs.YtkcplnfomahleaaGreatDoor
namespace Go.Proofs.YtkcplnfomahleaaGreatDoor
open Go Go.Vc Go.Proofs Wl
set_option maxRecDepth 100000
theorem clone_int_spec (s : Sl) (l : List Int) (h : Heap) (hs : Rd h s 1 intv l) (hsz : l.length ≤ 2 ^ 30) : Meets Tryz.prog slices_Clone_int_int_id #[.slice s.ptr s.len s.cap] h fun v h' => ∃ r : Sl, v = .slice r.ptr r.len r.cap ∧ Sp h h' [OwnA T_int r 1 intv l] := by
  refine slices_Clone_int_int_run s ?_
  unfold slices_Clone_int_int_m
  refine br_b (fun e => ?_) (fun e => ?_)
  · have := hs.isNil e
    subst this
    exact ⟨⟨none, 0, 0⟩, rfl, (Sp.refl h).nil T_int 1 intv⟩
  · refine (Sp.refl h).lit C_ok intv eInt rfl [] rfl (by decide) rfl fun s1 h1 H1 => ?_
    refine H1.append C_ok 0 rfl eInt ⟨_, _, rfl, rfl⟩ rfl (by decide) (fun _ => rfl) (hs.up H1.pres) one_int (by simp; omega) fun s2 h2 H2 => ⟨s2, rfl, H2⟩
theorem cloneB_spec (s : Sl) (l : List UInt8) (h : Heap) (hs : Rd h s 1 u8v l) (hsz : l.length ≤ 2 ^ 30) : Meets Tryz.prog bytes_Clone_id #[.slice s.ptr s.len s.cap] h fun v h' => ∃ r : Sl, v = .slice r.ptr r.len r.cap ∧ Sp h h' [OwnA T_uint8 r 1 u8v l] := by
  refine bytes_Clone_run s ?_
  unfold bytes_Clone_m
  refine br_b (fun e => ?_) (fun e => ?_)
  · have := hs.isNil e
    subst this
    exact ⟨⟨none, 0, 0⟩, rfl, (Sp.refl h).nil T_uint8 1 u8v⟩
  · refine (Sp.refl h).lit C_ok u8v eU8 rfl [] rfl (by decide) rfl fun s1 h1 H1 => ?_
    refine H1.append C_ok 0 rfl eU8 ⟨_, _, rfl, rfl⟩ rfl (by decide) (fun _ => rfl) (hs.up H1.pres) one_u8 (by simp; omega) fun s2 h2 H2 => ⟨s2, rfl, H2⟩
theorem sort_spec {e : TypeId} (s : Sl) (l : List Int) (h : Heap) (ho : Own h e s 1 intv l) (hsz : l.length < 2 ^ 40) : Meets Tryz.prog slices_Sort_int_int_id #[.slice s.ptr s.len s.cap] h fun v h' => v = .tuple #[] ∧ Own h' e s 1 intv (sortI l) ∧ Pres (fun b => ¬ s.on b) h h' :=
  sort_spec_of Tryz.slices_Sort_int Tryz.slices_Sort_int_none ho hsz
theorem some_spec (a : Addr) (s : Int) (n k : Nat) (h : Heap) (hb : Box h a T_draw_Draw [.int .u64 s]) (hn : n ≤ 64) (hk : k ≤ n) :
    Meets Tryz.prog choose_Some_id #[.pointer (some a), .int .i64 n, .int .i64 k] h fun v h' => ∃ r : Sl, v = .slice r.ptr r.len r.cap ∧ SpB (fun b => b < h.size ∧ ¬ b = a.block) h h' [BoxA a T_draw_Draw [.int .u64 (shuf n s (upto n) k).1], OwnA T_int r 1 intv (someI s n k)] := by
  refine choose_Some_run (some a) n k ?_
  unfold choose_Some_m
  refine join_in (br_dec (fun e => by omega) fun _ => br_dec (fun e => by omega) fun _ => br_dec (fun e => by omega) fun _ => br_dec (fun e => by omega) fun _ => ?_)
  have H0 : SpB (fun b => b < h.size ∧ ¬ b = a.block) h h [BoxA a T_draw_Draw [.int .u64 s]] := .enter1 (fun b => b = a.block) (fun b hb' => by rw [hb']; exact hb.lt) ⟨hb, rfl⟩
  refine H0.make C_ok intv eInt (by decide) 0 rfl rfl n n rfl rfl (Nat.le_refl _) (by omega) fun v h1 hl hc H1 => ?_
  refine loop_inv (fun i : Nat => (i : Int)) (fun i h' => i ≤ n ∧ SpB (fun b => b < h.size ∧ ¬ b = a.block) h h' [BoxA a T_draw_Draw [.int .u64 s], OwnA T_int v 1 intv ((upto n).take i ++ List.replicate (n - i) 0)]) (fun i => n - i) 0 rfl ⟨by omega, by simpa using H1⟩ ?_
  rintro i h2 ⟨hi, H2⟩
  refine br_dec (fun e => ?_) (fun e => ?_)
  · have hi' : i < n := by omega
    refine H2.set C_ok 1 rfl (fun _ => rfl) rfl i rfl (by simp [upto_len]; omega) (i : Int) rfl rfl rfl fun h3 H3 => ?_
    refine ⟨i + 1, by rw [wrap_small _ (by omega) (by omega)]; rfl, ⟨by omega, ?_⟩, by omega⟩
    have e2 : ((upto n).take i ++ List.replicate (n - i) 0).set i (i : Int) = (upto n).take (i + 1) ++ List.replicate (n - (i + 1)) 0 := by
      have hl2 : ((upto n).take i).length = i := by rw [List.length_take, upto_len]; omega
      rw [take_snoc _ _ (by rw [upto_len]; omega), List.set_append_right _ _ (by omega), hl2, Nat.sub_self, show n - i = n - (i + 1) + 1 by omega, List.replicate_succ, List.set_cons_zero]
      simp [upto]
    rw [← e2]; exact H3
  · have hi' : i = n := by omega
    subst hi'
    have e2 : (upto i).take i ++ List.replicate (i - i) 0 = upto i := by rw [List.take_of_length_le (by rw [upto_len]; omega)]; simp
    rw [e2] at H2
    refine loop_inv (fun j : Nat => (j : Int)) (fun j h' => j ≤ k ∧ SpB (fun b => b < h.size ∧ ¬ b = a.block) h h' [BoxA a T_draw_Draw [.int .u64 (shuf i s (upto i) j).1], OwnA T_int v 1 intv (shuf i s (upto i) j).2]) (fun j => k - j) 0 rfl ⟨by omega, H2⟩ ?_
    rintro j h3 ⟨hj, H3⟩
    have hsl := shuf_len i s (upto i) j
    rw [upto_len] at hsl
    refine br_dec (fun e3 => ?_) (fun e3 => ?_)
    · rw [wrap_small _ (by omega) (by omega)]
      have hcast : ((i : Int) - (j : Int)) = ((i - j : Nat) : Int) := by omega
      rw [hcast]
      refine (below_spec a _ _ h3 (H3.box 0 rfl) (by omega) (by omega)).mono ?_
      rintro w h4 ⟨rfl, hb4, hp4⟩
      have H4 := H3.boxStep 0 rfl hp4 hb4
      have hbl := below_lt (shuf i s (upto i) j).1 ((i - j : Nat) : Int) (by omega) (by omega)
      refine ⟨_, rfl, ?_⟩
      dsimp only
      rw [wrap_small _ (by omega) (by omega), wrap_small _ (by omega) (by omega)]
      have hx : (j : Int) + belowI (shuf i s (upto i) j).1 ((i - j : Nat) : Int) = ((j + (belowI (shuf i s (upto i) j).1 ((i - j : Nat) : Int)).toNat : Nat) : Int) := by omega
      have hlt : j + (belowI (shuf i s (upto i) j).1 ((i - j : Nat) : Int)).toNat < (shuf i s (upto i) j).2.length := by omega
      rw [hx]
      have hs4 := H4.seq 1 rfl (fun _ => rfl)
      refine hs4.get1 _ rfl hlt _ rfl ?_
      refine hs4.get1 j rfl (by omega) _ rfl ?_
      refine H4.set C_ok 1 rfl (fun _ => rfl) rfl j rfl (by omega) _ rfl rfl rfl fun h5 H5 => ⟨trivial, ?_⟩
      refine H5.set C_ok 1 rfl (fun _ => rfl) rfl _ rfl (by simpa using hlt) _ rfl rfl rfl fun h6 H6 => ⟨trivial, ?_⟩
      refine ⟨j + 1, rfl, ⟨by omega, ?_⟩, by omega⟩
      rw [shuf, swapI, getI, getI, Go.Vc.getD_lt hlt, Go.Vc.getD_lt (show j < (shuf i s (upto i) j).2.length by omega)]
      exact H6
    · have hj' : j = k := by omega
      subst hj'
      refine ⟨⟨by omega, by omega⟩, ?_⟩
      have hs3 := H3.seq 1 rfl (fun _ => rfl)
      refine (clone_int_spec ⟨v.ptr, j, v.cap⟩ ((shuf i s (upto i) j).2.take j) h3 (hs3.take j (by omega)) (by rw [List.length_take]; omega)).mono ?_
      rintro w h4 ⟨r, rfl, H4⟩
      refine ⟨r, rfl, ?_⟩
      refine (sort_spec r _ h4 (H4.own 0 rfl) (by rw [List.length_take]; omega)).mono ?_
      rintro w h5 ⟨rfl, ho5, hp5⟩
      have H5 := (H3.comp H4).ownStep 2 rfl hp5 ho5
      exact ⟨(), rfl, r, rfl, H5.del 1⟩
theorem cols_spec (p : Pm) (seed id : Int) (h : Heap) : Meets Tryz.prog lt_Cols_id #[pmv p, .int .u32 seed, .int .i64 id] h fun v h' => ∃ r : Sl, v = .slice r.ptr r.len r.cap ∧ Sp h h' [OwnA T_int r 1 intv (if mayP p && mayID id then colsI (colsP p).toNat seed id else [])] := by
  refine lt_Cols_run p seed id ?_
  unfold lt_Cols_m
  refine (Sp.refl h).boxed fun a h1 H1 => ?_
  refine join_in ?_
  refine ⟨p, (H1.box 0 rfl).cells0 _ rfl, (pre_May_spec p h1).mono ?_⟩
  rintro v h2 ⟨rfl, R2⟩
  have H2 := H1.comp R2
  have no : (mayP p && mayID id) = false → Sp h h2 [OwnA T_int ⟨none, 0, 0⟩ 1 intv (if mayP p && mayID id then colsI (colsP p).toNat seed id else [])] := fun hf => by
    rw [hf]; exact (H2.nil T_int 1 intv).take 1 (fun i A hi => by cases i with | zero => exact hi | succ i => simp at hi)
  refine ⟨_, rfl, br_not (fun e => ⟨⟨none, 0, 0⟩, rfl, no (by rw [e]; rfl)⟩) fun hp => ?_⟩
  refine br_dec (fun e => ⟨⟨none, 0, 0⟩, rfl, no (by simp [mayID]; omega)⟩) fun e1 => ?_
  refine br_dec (fun e => ⟨⟨none, 0, 0⟩, rfl, no (by simp [mayID]; omega)⟩) fun e2 => ?_
  have hid : mayID id = true := by simp [mayID]; omega
  rw [hp, hid]
  refine ⟨p, (H2.box 0 rfl).cells0 _ rfl, (pre_Cols_spec p h2).mono ?_⟩
  rintro v h3 ⟨rfl, R3⟩
  have H3 := H2.comp R3
  have hpp := (mayP_iff p).1 hp
  have hc : colsP p = p.1 + p.2.1 := by rw [colsP, if_pos hp]
  obtain ⟨n, hn⟩ : ∃ n : Nat, colsP p = n := ⟨(colsP p).toNat, by omega⟩
  refine ⟨_, rfl, ?_⟩
  dsimp only
  rw [hn, Int.toNat_natCast]
  refine (draw_New_spec _ h3).mono ?_
  rintro v h4 ⟨d, rfl, R4⟩
  refine ⟨some d, rfl, ?_⟩
  refine (draw_Next_spec d _ h4 (R4.box 0 rfl)).mono ?_
  rintro v h5 ⟨rfl, hb5, hp5⟩
  have R5 := R4.boxStep 0 rfl hp5 hb5
  refine ⟨_, rfl, ?_⟩
  refine (table_spec n h5 (by omega) (by omega)).mono ?_
  rintro v h6 ⟨t, rfl, R6⟩
  have R56 := R5.comp R6
  refine ⟨t, rfl, ?_⟩
  have hnb : ∀ b, t.on b → b ≠ d.block := fun b hb he => by
    have h1 := (R6.fresh 0 rfl).2 b hb
    have h2 := (R5.box 0 rfl).lt
    omega
  refine (soliton_Draw_spec t n d _ h6 ((R6.own 0 rfl).seq (fun _ => rfl) hnb) (R56.box 0 rfl) (by omega) (by omega)).mono ?_
  rintro v h7 ⟨rfl, hb7, hp7⟩
  have R7 := R56.boxStep 0 rfl hp7 hb7
  refine ⟨_, rfl, ?_⟩
  refine (some_spec d _ n _ h7 (R7.box 0 rfl) (by omega) (degOf_le _ n (by omega) (by omega))).mono ?_
  rintro v h8 ⟨r, rfl, R8⟩
  have R := R7.call 0 rfl (fun b => b = d.block) (fun q hq b hb => by rw [hb]; exact hq.2) R8
  exact ⟨r, rfl, r, rfl, ((H3.comp R).take 3 (fun i A hi => by cases i with | zero => exact hi | succ i => simp at hi))⟩
end Go.Proofs.YtkcplnfomahleaaGreatDoor
namespace Go.Proofs.YtkcplnfomahleaaGreatDoor
open Go Go.Vc Go.Proofs Wl
set_option maxRecDepth 100000
theorem own_some {α : Type} {h : Heap} {e : TypeId} {s : Sl} {k : Nat} {f : α → List Value} {l : List α} (ho : Own h e s k f l) (hl : l ≠ []) : s.ptr.isNone = false := by
  rcases ho.head with ⟨_, _, h3⟩ | ⟨b, rest, h1, _⟩
  · exact absurd h3 hl
  · rw [h1]; rfl
theorem row_spec (p : Pm) (seed id : Int) (h : Heap) : Meets Tryz.prog lt_Row_id #[pmv p, .int .u32 seed, .int .i64 id] h fun v h' => ∃ r : Sl, v = .slice r.ptr r.len r.cap ∧
    Sp h h' [OwnA T_uint8 r 1 u8v (if mayP p && mayID id then rowI (colsP p).toNat seed id else [])] ∧ r.ptr.isNone = !(mayP p && mayID id) := by
  refine lt_Row_run p seed id ?_
  unfold lt_Row_m
  refine (Sp.refl h).boxed fun a h1 H1 => ?_
  refine join_in ?_
  refine ⟨p, (H1.box 0 rfl).cells0 _ rfl, (pre_May_spec p h1).mono ?_⟩
  rintro v h2 ⟨rfl, R2⟩
  have H2 := H1.comp R2
  have no : (mayP p && mayID id) = false → Sp h h2 [OwnA T_uint8 ⟨none, 0, 0⟩ 1 u8v (if mayP p && mayID id then rowI (colsP p).toNat seed id else [])] ∧ Option.isNone (none : Option Addr) = !(mayP p && mayID id) := fun hf => by
    rw [hf]; exact ⟨(H2.nil T_uint8 1 u8v).take 1 (fun i A hi => by cases i with | zero => exact hi | succ i => simp at hi), rfl⟩
  refine ⟨_, rfl, br_not (fun e => ⟨⟨none, 0, 0⟩, rfl, no (by rw [e]; rfl)⟩) fun hp => ?_⟩
  refine br_dec (fun e => ⟨⟨none, 0, 0⟩, rfl, no (by simp [mayID]; omega)⟩) fun e1 => ?_
  refine br_dec (fun e => ⟨⟨none, 0, 0⟩, rfl, no (by simp [mayID]; omega)⟩) fun e2 => ?_
  have hid : mayID id = true := by simp [mayID]; omega
  refine ⟨p, (H2.box 0 rfl).cells0 _ rfl, (pre_Cols_spec p h2).mono ?_⟩
  rintro v h3 ⟨rfl, R3⟩
  have H3 := H2.comp R3
  have hpp := (mayP_iff p).1 hp
  have hc : colsP p = p.1 + p.2.1 := by rw [colsP, if_pos hp]
  obtain ⟨n, hn⟩ : ∃ n : Nat, colsP p = n := ⟨(colsP p).toNat, by omega⟩
  refine ⟨_, rfl, ?_⟩
  dsimp only
  rw [hn]
  refine H3.make C_ok u8v eU8 (by decide) 0 rfl rfl n n rfl rfl (Nat.le_refl _) (by omega) fun v h4 hl hcp H4 => ?_
  refine ⟨p, (H4.box 0 rfl).cells0 _ rfl, (cols_spec p seed id h4).mono ?_⟩
  rintro w h5 ⟨c, rfl, R5⟩
  rw [hp, hid, hn, Int.toNat_natCast] at R5
  rw [hp, hid, Int.toNat_natCast]
  have H5 := H4.comp R5
  have hcs := H5.seq 2 rfl (fun _ => rfl)
  have hcl := hcs.len
  obtain ⟨cs, hcs'⟩ : ∃ cs, cs = colsI n seed id := ⟨_, rfl⟩
  have hin : ∀ x ∈ cs, 0 ≤ x ∧ x < (n : Int) := fun x hx => colsI_mem (by omega) (by omega) (by rw [← hcs']; exact hx)
  have hcl2 : cs.length ≤ n := by rw [hcs']; exact colsI_len (by omega) (by omega) _ _
  simp only [Bool.and_self, if_true, ← hcs'] at H5 hcs hcl R5
  refine ⟨c, rfl, ?_⟩
  refine loop_inv (fun i : Nat => (i : Int)) (fun i h' => i ≤ cs.length ∧ Sp h h' [BoxA a T_api_Params [.int .i64 p.1, .int .i64 p.2.1, .int .i64 p.2.2], OwnA T_uint8 v 1 u8v (onesI n (cs.take i)), OwnA T_int c 1 intv cs]) (fun i => cs.length - i) 0 rfl ⟨by omega, H5⟩ ?_
  rintro i h6 ⟨hi, H6⟩
  refine br_dec (fun e => ?_) (fun e => ?_)
  · have hi' : i < cs.length := by omega
    have hx := hin _ (List.getElem_mem hi')
    refine (H6.seq 2 rfl (fun _ => rfl)).get1 i rfl hi' _ rfl ?_
    refine H6.set C_ok 1 rfl (fun _ => rfl) rfl cs[i].toNat (by omega) (by rw [ones_len]; omega) 1 rfl rfl rfl fun h7 H7 => ?_
    refine ⟨i + 1, by rw [wrap_small _ (by omega) (by omega)]; rfl, ⟨by omega, ?_⟩, by omega⟩
    have e2 : onesI n (cs.take (i + 1)) = (onesI n (cs.take i)).set cs[i].toNat 1 := by rw [take_snoc _ _ hi', onesI, List.foldl_append]; rfl
    rw [e2]; exact H7
  · rw [List.take_of_length_le (by omega)] at H6
    have Hf : Sp h h6 [OwnA T_uint8 v 1 u8v (onesI n cs)] := (H6.del 2).take 1 (fun i A hi => by cases i with | zero => exact hi | succ i => simp at hi)
    refine ⟨v, rfl, ?_, own_some (Hf.own 0 rfl) (fun hh => ?_)⟩
    · rw [hcs'] at Hf; exact Hf
    · have := ones_len n cs; rw [hh] at this; simp at this; omega
theorem pre_Rows_spec (p : Pm) (h : Heap) : Meets Tryz.prog pre_Rows_id #[pmv p] h fun v h' => ∃ r : Sl, v = .slice r.ptr r.len r.cap ∧ Sp h h' [RowsA T_sl_uint8 r 1 u8v (if mayP p then aheadRows p.1.toNat p.2.1.toNat else [])] := by
  refine pre_Rows_run p ?_
  unfold pre_Rows_m
  refine (Sp.refl h).boxed fun a h1 H1 => ?_
  refine ⟨p, (H1.box 0 rfl).cells0 _ rfl, (pre_May_spec p h1).mono ?_⟩
  rintro v h2 ⟨rfl, R2⟩
  have H2 := H1.comp R2
  refine ⟨_, rfl, br_not (fun e => ⟨⟨none, 0, 0⟩, rfl, ?_⟩) fun hp => ?_⟩
  · rw [e]; exact (H2.rows0 T_sl_uint8 1 u8v).take 1 (fun i A hi => by cases i with | zero => exact hi | succ i => simp at hi)
  have hpp := (mayP_iff p).1 hp
  have hc : colsP p = p.1 + p.2.1 := by rw [colsP, if_pos hp]
  obtain ⟨K, hK⟩ : ∃ K : Nat, p.1 = K := ⟨p.1.toNat, by omega⟩
  obtain ⟨Hh, hH⟩ : ∃ H : Nat, p.2.1 = H := ⟨p.2.1.toNat, by omega⟩
  refine (gfNew_spec h2).mono ?_
  rintro v h3 ⟨f, rfl, R3⟩
  have H3 := (H2.comp R3).rows0 T_sl_uint8 1 u8v
  refine ⟨some f, rfl, _, (H3.box 0 rfl).cell rfl, ?_⟩
  refine loop_inv (fun t : Sl × Nat => (t.1, (t.2 : Int))) (fun t h' => t.2 ≤ Hh ∧ Sp h h' [BoxA a T_api_Params [.int .i64 p.1, .int .i64 p.2.1, .int .i64 p.2.2], BoxA f T_gf_Field fieldCells, RowsA T_sl_uint8 t.1 1 u8v ((aheadRows K Hh).take t.2)]) (fun t => Hh - t.2) (⟨none, 0, 0⟩, 0) rfl ⟨by simp, H3⟩ ?_
  rintro ⟨s, k⟩ h4 ⟨hk, H4⟩
  dsimp only at *
  refine br_dec (fun e => ?_) (fun e => ?_)
  · have hk' : k < Hh := by omega
    refine join_in ⟨p, (H4.box 0 rfl).cells0 _ rfl, p.1, (H4.box 0 rfl).cell0 rfl, ?_⟩
    refine (pre_Cols_spec p h4).mono ?_
    rintro v h5 ⟨rfl, R5⟩
    have H5 := H4.comp R5
    refine ⟨_, rfl, ⟨(H5.box 0 rfl).cell0 rfl, trivial⟩, ?_⟩
    dsimp only
    rw [wrap_small (p.1 + k) (by omega) (by omega), hc]
    refine (unit_spec _ _ h5).mono ?_
    rintro v h6 ⟨u, rfl, R6⟩
    rw [if_pos (by omega)] at R6
    have e1 : (p.1 + p.2.1).toNat = K + Hh := by omega
    have e2 : (p.1 + (k : Int)).toNat = K + k := by omega
    rw [e1, e2] at R6
    have H6 := H5.comp R6
    refine ⟨u, rfl, ⟨(H6.box 0 rfl).cell0 rfl, trivial⟩, p.1, (H6.box 0 rfl).cell0 rfl, ?_⟩
    let rowAt : Nat → List UInt8 := fun j => (List.range j).map (fun i => Gf.pw ((k + 1) * (i + 1) % 255)) ++ ((List.replicate (K + Hh) (0 : UInt8)).set (K + k) 1).drop j
    refine loop_inv (fun j : Nat => (j : Int)) (fun j h' => j ≤ K ∧ Sp h h' [BoxA a T_api_Params [.int .i64 p.1, .int .i64 p.2.1, .int .i64 p.2.2], BoxA f T_gf_Field fieldCells, RowsA T_sl_uint8 s 1 u8v ((aheadRows K Hh).take k), OwnA T_uint8 u 1 u8v (rowAt j)]) (fun j => K - j) 0 rfl ⟨by omega, H6⟩ ?_
    rintro j h7 ⟨hj, H7⟩
    refine br_dec (fun e3 => ?_) (fun e3 => ?_)
    · have hj' : j < K := by omega
      have hm : (k + 1) * (j + 1) ≤ 4 * 16 := Nat.mul_le_mul (by omega) (by omega)
      have e4 : IntKind.wrap .i64 (IntKind.wrap .i64 ((k : Int) + 1) * IntKind.wrap .i64 ((j : Int) + 1)) = (((k + 1) * (j + 1) : Nat) : Int) := by
        rw [wrap_small ((k : Int) + 1) (by omega) (by omega), wrap_small ((j : Int) + 1) (by omega) (by omega), show ((k : Int) + 1) * ((j : Int) + 1) = (((k + 1) * (j + 1) : Nat) : Int) by rw [Int.natCast_mul]; rfl]
        exact i64_of_nat _ (by omega)
      rw [e4]
      refine (exp_spec f _ h7 (H7.box 1 rfl)).mono ?_
      rintro v h8 ⟨rfl, rfl⟩
      refine ⟨_, rfl, ?_⟩
      have hlen : (rowAt j).length = K + Hh := by simp [rowAt]; omega
      refine H7.set C_ok 3 rfl (fun _ => rfl) rfl j rfl (by omega) _ rfl rfl rfl fun h9 H9 => ?_
      refine ⟨j + 1, by rw [wrap_small _ (by omega) (by omega)]; rfl, ⟨by omega, ?_⟩, by omega⟩
      have e5 : (rowAt j).set j (Gf.pw ((((k + 1) * (j + 1) : Nat) : Int) % 255).toNat) = rowAt (j + 1) := by
        have e6 : ((((k + 1) * (j + 1) : Nat) : Int) % 255).toNat = (k + 1) * (j + 1) % 255 := by omega
        rw [e6]
        simp only [rowAt]
        rw [List.set_append_right _ _ (by simp), List.length_map, List.length_range, Nat.sub_self, List.drop_eq_getElem_cons (by simp; omega), List.set_cons_zero, List.range_succ, List.map_append, List.append_assoc]
        rfl
      rw [← e5]; exact H9
    · have hj' : j = K := by omega
      subst hj'
      have e5 : rowAt j = aheadRow j Hh k := by
        simp only [rowAt, aheadRow]
        congr 1
        apply List.ext_getElem?
        intro i
        rw [List.getElem?_drop, List.getElem?_set, List.getElem?_map]
        by_cases hi : i < Hh
        · rw [List.getElem?_range hi, Option.map_some, List.getElem?_replicate]
          by_cases hik : i = k
          · subst hik; simp [hi]
          · rw [if_neg (by omega), if_pos (by omega), if_neg hik]
        · rw [List.getElem?_eq_none (l := List.range Hh) (by simp; omega), if_neg (by omega), List.getElem?_replicate, if_neg (by omega)]; rfl
      rw [e5] at H7
      have H8 := H7.freeze 3 rfl (fun _ => rfl)
      have hll : ((aheadRows j Hh).take k).length = k := by simp [aheadRows]; omega
      refine H8.rowPush C_ok 2 3 (by decide) rfl rfl eSlU8 (by omega) fun s' h9 H9 => ?_
      refine ⟨(s', k + 1), by dsimp only; rw [wrap_small _ (by omega) (by omega)]; rfl, ⟨by dsimp only; omega, ?_⟩, by dsimp only; omega⟩
      have e7 : (aheadRows j Hh).take (k + 1) = (aheadRows j Hh).take k ++ [aheadRow j Hh k] := by
        rw [take_snoc _ _ (by simp [aheadRows]; omega)]; simp [aheadRows]
      dsimp only
      rw [e7]
      exact H9.del 3
  · refine ⟨s, rfl, ?_⟩
    rw [if_pos hp, hK, hH, Int.toNat_natCast, Int.toNat_natCast]
    rw [List.take_of_length_le (by simp [aheadRows]; omega)] at H4
    exact H4.take 2 (fun i A hi => by cases i with | zero => exact hi | succ i => simp at hi)
end Go.Proofs.YtkcplnfomahleaaGreatDoor
namespace Go.Proofs.YtkcplnfomahleaaGreatDoor
open Go Go.Vc Go.Proofs Wl
set_option maxRecDepth 100000
theorem first_spec (p : Pm) (h : Heap) : Meets Tryz.prog system_First_id #[pmv p] h fun v h' => ∃ r : Sl, v = .slice r.ptr r.len r.cap ∧ Sp h h' [OwnA T_int r 1 intv (upto (max 0 (min p.1 16)).toNat)] := by
  refine system_First_run p ?_
  unfold system_First_m
  refine (Sp.refl h).boxed fun a h1 H1 => ?_
  refine ⟨p.1, (H1.box 0 rfl).cell0 rfl, ?_⟩
  have em : (if (if (16 : Int) < p.1 then (16 : Int) else p.1) > (0 : Int) then (if (16 : Int) < p.1 then (16 : Int) else p.1) else (0 : Int)) = ((max 0 (min p.1 16)).toNat : Int) := by
    split <;> split <;> omega
  rw [em]
  generalize hN : (max 0 (min p.1 16)).toNat = N
  have hN16 : N ≤ 16 := by omega
  refine loop_inv (fun t : Sl × Nat => (t.1, (t.2 : Int))) (fun t h' => t.2 ≤ N ∧ Sp h h' [emp, OwnA T_int t.1 1 intv (upto t.2)]) (fun t => N - t.2) (⟨none, 0, 0⟩, 0) rfl ⟨by simp, (H1.weak 0 rfl fun _ _ => trivial).nil T_int 1 intv⟩ ?_
  rintro ⟨s, k⟩ h2 ⟨hk, H2⟩
  dsimp only at *
  refine br_dec (fun e => ?_) (fun e => ?_)
  · refine H2.push C_ok 1 rfl eInt rfl (by decide) (fun _ => rfl) one_int (k : Int) rfl (by decide) (by rw [upto_len]; omega) fun s' h3 H3 => ?_
    refine ⟨(s', k + 1), by dsimp only; rw [wrap_small _ (by omega) (by omega)]; rfl, ⟨by dsimp only; omega, ?_⟩, by dsimp only; omega⟩
    have e2 : upto (k + 1) = upto k ++ [(k : Int)] := by simp [upto, List.range_succ]
    dsimp only; rw [e2]; exact H3
  · have : k = N := by omega
    subst this
    exact ⟨s, rfl, H2.take 1 (fun i A hi => by cases i with | zero => exact hi | succ i => simp at hi)⟩
theorem matrix_spec (p : Pm) (seed : Int) (ids : Sl) (l : List Int) (h : Heap) (hl : Rd h ids 1 intv l) (hsz : l.length ≤ 2 ^ 30) : Meets Tryz.prog system_Matrix_id #[pmv p, .int .u32 seed, .slice ids.ptr ids.len ids.cap] h fun v h' => ∃ r : Sl, v = .slice r.ptr r.len r.cap ∧ Sp h h' [RowsA T_sl_uint8 r 1 u8v (matI p seed l)] := by
  refine system_Matrix_run p seed ids ?_
  unfold system_Matrix_m
  refine (Sp.refl h).boxed fun a h1 H1 => ?_
  refine ⟨p, (H1.box 0 rfl).cells0 _ rfl, (pre_Rows_spec p h1).mono ?_⟩
  rintro v h2 ⟨r, rfl, R2⟩
  have H2 := H1.comp R2
  refine ⟨r, rfl, ?_⟩
  have hlen := hl.len
  let at_ : Nat → List (List UInt8) := fun k => matI p seed (l.take k)
  have h0 : (if mayP p then aheadRows p.1.toNat p.2.1.toNat else []) = at_ 0 := by simp [at_, matI]
  rw [h0] at H2
  refine loop_inv (fun t : Sl × Nat => (t.1, (t.2 : Int))) (fun t h' => t.2 ≤ l.length ∧ Sp h h' [BoxA a T_api_Params [.int .i64 p.1, .int .i64 p.2.1, .int .i64 p.2.2], RowsA T_sl_uint8 t.1 1 u8v (at_ t.2)]) (fun t => l.length - t.2) (r, 0) rfl ⟨by simp, H2⟩ ?_
  rintro ⟨s, k⟩ h3 ⟨hk, H3⟩
  dsimp only at *
  refine br_dec (fun e => ?_) (fun e => ?_)
  · have hk' : k < l.length := by omega
    refine (Seq.up hl H3.pres).get1 k rfl hk' _ rfl ?_
    refine ⟨p, (H3.box 0 rfl).cells0 _ rfl, (row_spec p seed l[k] h3).mono ?_⟩
    rintro v h4 ⟨w, rfl, R4, hnil⟩
    have H4 := (H3.comp R4).freeze 2 rfl (fun _ => rfl)
    refine ⟨w, rfl, ?_⟩
    have hat : (at_ k).length ≤ 4 + k ∨ at_ k = [] := by
      by_cases hp : mayP p
      · left
        have := (mayP_iff p).1 hp
        have h1 := List.length_filter_le mayID (l.take k)
        have h2 := List.length_take_le k l
        simp only [at_, matI, hp, if_true, List.length_append, List.length_map, aheadRows, List.length_range]
        omega
      · right; simp [at_, matI, hp]
    have hat' : (at_ k).length + 1 ≤ 2 ^ 32 := by rcases hat with h | h
                                                  · omega
                                                  · rw [h]; simp
    dsimp only
    refine br_not (fun e2 => ?_) (fun e2 => ?_)
    · rw [hnil] at e2
      have hok : (mayP p && mayID l[k]) = true := by simpa using e2
      rw [hok, if_pos rfl] at H4
      refine H4.rowPush C_ok 1 2 (by decide) rfl rfl eSlU8 hat' fun s' h5 H5 => ?_
      refine ⟨(s', k + 1), by dsimp only; rw [wrap_small _ (by omega) (by omega)]; rfl, ⟨by dsimp only; omega, ?_⟩, by dsimp only; omega⟩
      rw [Bool.and_eq_true] at hok
      have e7 : at_ (k + 1) = at_ k ++ [rowI (colsP p).toNat seed l[k]] := by
        simp only [at_, matI, hok.1, if_true]
        rw [filter_take_snoc hk', if_pos hok.2, List.map_append, List.append_assoc]; rfl
      dsimp only
      rw [e7]; exact H5.del 2
    · rw [hnil] at e2
      have hok : (mayP p && mayID l[k]) = false := by
        cases hh : (mayP p && mayID l[k]) with
        | false => rfl
        | true => rw [hh] at e2; cases e2
      refine ⟨(s, k + 1), by dsimp only; rw [wrap_small _ (by omega) (by omega)]; rfl, ⟨by dsimp only; omega, ?_⟩, by dsimp only; omega⟩
      have e7 : at_ (k + 1) = at_ k := by
        simp only [at_, matI]
        rw [Bool.and_eq_false_iff] at hok
        rcases hok with h | h
        · simp [h]
        · have hf : (l.take (k + 1)).filter mayID = (l.take k).filter mayID := by rw [filter_take_snoc hk', if_neg (by simp [h])]
          rw [hf]
      dsimp only
      rw [e7]; exact H4.del 2
  · refine ⟨s, rfl, ?_⟩
    have e7 : at_ k = matI p seed l := by simp only [at_]; rw [List.take_of_length_le (by omega)]
    rw [e7] at H3
    exact H3.take 1 (fun i A hi => by cases i with | zero => exact hi | succ i => simp at hi)
theorem mat_May_spec (a : Sl) (m : Mat) (n : Nat) (h : Heap) (ha : Rd2 h a 1 u8v m) (hm : evenB n m) (hn : n ≤ 64) (hs : m.length ≤ 2 ^ 30) : Meets Tryz.prog mat_May_id #[.slice a.ptr a.len a.cap] h fun v h' => v = .bool true ∧ h' = h := by
  refine mat_May_run a ?_
  unfold mat_May_m
  have hl := ha.len
  refine loop_inv (fun k : Nat => (k : Int)) (fun k h' => h' = h ∧ k ≤ m.length) (fun k => m.length - k) 0 rfl ⟨rfl, by omega⟩ ?_
  rintro k h' ⟨rfl, hk⟩
  refine br_dec (fun e => ?_) (fun e => ⟨rfl, rfl⟩)
  have hk' : k < m.length := by omega
  refine ha.get k rfl hk' fun r hr => ?_
  refine ha.get 0 rfl (by omega) fun r0 hr0 => ?_
  have h1 := hr.len; have h2 := hr0.len
  rw [hm _ (List.getElem_mem _)] at h1 h2
  refine br_ne (fun e => by omega) fun _ => br_dec (fun e => by omega) fun _ => ?_
  exact ⟨k + 1, by rw [wrap_small _ (by omega) (by omega)]; rfl, ⟨rfl, by omega⟩, by omega⟩
theorem mat_own_spec (a : Sl) (m : Mat) (n : Nat) (h : Heap) (ha : Rd2 h a 1 u8v m) (hm : evenB n m) (hn : n ≤ 64) (hs : m.length ≤ 2 ^ 30) : Meets Tryz.prog mat_own_id #[.slice a.ptr a.len a.cap] h fun v h' => ∃ (r : Sl) (rs : List Sl), v = .slice r.ptr r.len r.cap ∧ rs.length = m.length ∧ Sp h h' (OwnA T_sl_uint8 r 1 slv rs :: ownRows T_uint8 1 u8v rs m) := by
  refine mat_own_run a ?_
  unfold mat_own_m
  have hl := ha.len
  refine (Sp.refl h).make C_ok slv eSlU8 (by decide) ⟨none, 0, 0⟩ rfl rfl 0 m.length rfl (by omega) (by omega) (by omega) fun s h1 hsl hc H1 => ?_
  refine loop_inv (fun t : Sl × List Sl => (t.1, (t.2.length : Int))) (fun t h' => t.2.length ≤ m.length ∧ Sp h h' (OwnA T_sl_uint8 t.1 1 slv t.2 :: ownRows T_uint8 1 u8v t.2 (m.take t.2.length))) (fun t => m.length - t.2.length) (s, []) rfl ⟨by simp, by simpa [ownRows] using H1⟩ ?_
  rintro ⟨s, rs⟩ h2 ⟨hk, H2⟩
  dsimp only at *
  refine br_dec (fun e => ?_) (fun e => ?_)
  · have hk' : rs.length < m.length := by omega
    refine (ha.up H2.pres).get rs.length rfl hk' fun r hr => ?_
    have hrl : m[rs.length].length = n := hm _ (List.getElem_mem _)
    refine (cloneB_spec r _ h2 hr (by omega)).mono ?_
    rintro v h3 ⟨w, rfl, R3⟩
    have H3 := H2.comp R3
    refine ⟨w, rfl, ?_⟩
    refine H3.push C_ok 0 rfl eSlU8 rfl (by decide) (fun _ => rfl) one_sl w rfl (by decide) (by omega) fun s' h4 H4 => ?_
    refine ⟨(s', rs ++ [w]), by dsimp only; rw [wrap_small _ (by omega) (by omega)]; simp, ⟨by simp; omega, ?_⟩, by simp; omega⟩
    dsimp only
    rw [show (rs ++ [w]).length = rs.length + 1 by simp, take_snoc _ _ hk', ownRows_snoc (by rw [List.length_take]; omega)]
    exact H4
  · have e2 : m.take rs.length = m := List.take_of_length_le (by omega)
    rw [e2] at H2
    exact ⟨s, rs, rfl, by omega, H2⟩
theorem mat_width_spec (a : Sl) (m : Mat) (h : Heap) (ha : Rd2 h a 1 u8v m) : Meets Tryz.prog mat_width_id #[.slice a.ptr a.len a.cap] h fun v h' => v = .int .i64 (widthB m) ∧ h' = h := by
  refine mat_width_run a ?_
  unfold mat_width_m
  have hl := ha.len
  refine br_eq (fun e => ?_) (fun e => ?_)
  · have : m = [] := List.eq_nil_of_length_eq_zero (by omega)
    subst this
    exact ⟨rfl, rfl⟩
  · refine ha.get 0 rfl (by omega) fun r hr => ⟨?_, rfl⟩
    rw [hr.len, widthB, row_lt (by omega)]
theorem col_lt {r : Row} {c : Nat} (h : c < r.length) : colB r c = r[c] := by rw [colB, List.getD_eq_getElem?_getD, List.getElem?_eq_getElem h]; rfl
theorem begins_spec (a : Sl) (m : Mat) (n top col : Nat) (h : Heap) (ha : Rd2 h a 1 u8v m) (hm : evenB n m) (hc : col < n) (hs : m.length ≤ 2 ^ 30) :
    Meets Tryz.prog mat_begins_id #[.slice a.ptr a.len a.cap, .int .i64 top, .int .i64 col] h fun v h' => v = .int .i64 (match beginsB m top col with | some i => (i : Int) | none => -1) ∧ h' = h := by
  refine mat_begins_run a top col ?_
  unfold mat_begins_m
  have hl := ha.len
  refine loop_inv (fun k : Nat => (k : Int)) (fun k h' => h' = h ∧ top ≤ k ∧ k ≤ max top m.length ∧ ∀ j, j < k → (decide (top ≤ j) && (colB (rowB m j) col != 0)) = false) (fun k => m.length - k) top rfl ⟨rfl, by omega, by omega, fun j hj => by rw [decide_eq_false (by omega)]; rfl⟩ ?_
  rintro k h' ⟨rfl, hk1, hk2, hj⟩
  refine br_dec (fun e => ?_) (fun e => ?_)
  · rw [beginsB, find_none' (fun j hj' => hj j (by omega))]; exact ⟨rfl, rfl⟩
  · have hk' : k < m.length := by omega
    have hrl : m[k].length = n := hm _ (List.getElem_mem _)
    refine ha.get k rfl hk' fun r hr => ?_
    refine hr.get1 col rfl (by omega) _ rfl ?_
    have hcell : colB (rowB m k) col = m[k][col]'(by omega) := by rw [row_lt hk', col_lt (by omega)]
    refine br_ne (fun e2 => ?_) (fun e2 => ?_)
    · have hne : (decide (top ≤ k) && (colB (rowB m k) col != 0)) = true := by
        rw [decide_eq_true hk1, hcell]; simp; exact fun h0 => e2 (by rw [h0]; rfl)
      rw [beginsB, find_some' hk' hj hne]; exact ⟨rfl, rfl⟩
    · refine ⟨k + 1, by rw [wrap_small _ (by omega) (by omega)]; rfl, ⟨rfl, by omega, by omega, fun j hj' => ?_⟩, by omega⟩
      rcases Nat.lt_succ_iff_lt_or_eq.1 hj' with h1 | rfl
      · exact hj j h1
      · rw [hcell, nat0.1 e2]; simp
theorem scale_spec (f : Addr) (c : UInt8) (a : Sl) (l : Row) (h : Heap) (hf : FieldB h f) (ha : Rd h a 1 u8v l) (hs : l.length ≤ 2 ^ 30) : Meets Tryz.prog row_Scale_id #[.pointer (some f), .int .u8 c.toNat, .slice a.ptr a.len a.cap] h fun v h' => ∃ r : Sl, v = .slice r.ptr r.len r.cap ∧ Sp h h' [OwnA T_uint8 r 1 u8v (scaleB c l)] := by
  refine row_Scale_run (some f) _ a ?_
  unfold row_Scale_m
  have hl := ha.len
  refine (row_sure_spec f h).mono ?_
  rintro v h1 ⟨rfl, rfl⟩
  refine ⟨some f, rfl, ?_⟩
  refine (Sp.refl h1).make C_ok u8v eU8 (by decide) 0 rfl rfl l.length l.length (by omega) (by omega) (Nat.le_refl _) (by omega) fun s h2 hsl hc H2 => ?_
  refine loop_inv (fun k : Nat => (k : Int)) (fun k h' => k ≤ l.length ∧ Sp h1 h' [OwnA T_uint8 s 1 u8v ((l.take k).map (Gf.mul c) ++ List.replicate (l.length - k) 0)]) (fun k => l.length - k) 0 rfl ⟨by omega, by simpa using H2⟩ ?_
  rintro k h3 ⟨hk, H3⟩
  refine br_dec (fun e => ?_) (fun e => ?_)
  · have hk' : k < l.length := by omega
    refine (Seq.up ha H3.pres).get1 k rfl hk' _ rfl ?_
    refine (mul_spec f c l[k] h3 (hf.pres H3.pres hf.lt)).mono ?_
    rintro v h4 ⟨rfl, rfl⟩
    refine ⟨_, rfl, ?_⟩
    refine H3.set C_ok 0 rfl (fun _ => rfl) rfl k rfl (by simp; omega) _ rfl rfl rfl fun h5 H5 => ?_
    refine ⟨k + 1, by rw [wrap_small _ (by omega) (by omega)]; rfl, ⟨by omega, ?_⟩, by omega⟩
    have hlk : ((l.take k).map (Gf.mul c)).length = k := by simp; omega
    have e2 : ((l.take k).map (Gf.mul c) ++ List.replicate (l.length - k) 0).set k (Gf.mul c l[k]) = (l.take (k + 1)).map (Gf.mul c) ++ List.replicate (l.length - (k + 1)) 0 := by
      rw [List.set_append_right _ _ (by omega), hlk, Nat.sub_self, show l.length - k = l.length - (k + 1) + 1 by omega, List.replicate_succ, List.set_cons_zero, take_snoc _ _ hk', List.map_append, List.append_assoc]; rfl
    rw [← e2]; exact H5
  · have : k = l.length := by omega
    subst this
    refine ⟨s, rfl, ?_⟩
    rw [List.take_of_length_le (Nat.le_refl _), Nat.sub_self, List.replicate_zero, List.append_nil] at H3
    exact H3
theorem zip_take_set {c : UInt8} {a t : Row} (hat : a.length = t.length) {k : Nat} (hk : k < t.length) : (List.zipWith (fun x y => y ^^^ Gf.mul c x) (a.take k) (t.take k) ++ t.drop k).set k (t[k] ^^^ Gf.mul c (a[k]'(by omega))) = List.zipWith (fun x y => y ^^^ Gf.mul c x) (a.take (k + 1)) (t.take (k + 1)) ++ t.drop (k + 1) := by
  have hl : (List.zipWith (fun x y => y ^^^ Gf.mul c x) (a.take k) (t.take k)).length = k := by simp; omega
  rw [List.set_append_right _ _ (by omega), hl, Nat.sub_self, List.drop_eq_getElem_cons hk, List.set_cons_zero, take_snoc _ _ hk, take_snoc _ _ (show k < a.length by omega), List.zipWith_append (by simp; omega)]
  simp
theorem add_spec (f : Addr) (c : UInt8) (a to : Sl) (la lt : Row) (h : Heap) (hf : FieldB h f) (hfo : ¬ to.on f.block) (ha : Seq h (fun b => ¬ to.on b) a 1 u8v la) (ht : Own h T_uint8 to 1 u8v lt) (hat : la.length = lt.length) (hs : la.length ≤ 2 ^ 30) :
    Meets Tryz.prog mat_add_id #[.pointer (some f), .int .u8 c.toNat, .slice a.ptr a.len a.cap, .slice to.ptr to.len to.cap] h fun v h' => v = .tuple #[] ∧ Own h' T_uint8 to 1 u8v (addB c la lt) ∧ Pres (fun b => ¬ to.on b) h h' := by
  refine mat_add_run (some f) _ a to ?_
  unfold mat_add_m
  have hl := ha.len; have htl := ht.len
  refine br_eq (fun e => ?_) (fun _ => ?_)
  · have hc : c = 0 := nat0.1 e
    subst hc
    have : addB 0 la lt = lt := by
      apply List.ext_getElem (by rw [add_len hat])
      intro i h1 h2
      simp [addB, Gf.zero_mul]
    exact ⟨rfl, by rw [this]; exact ht, Pres.refl _ _⟩
  · refine loop_inv (fun k : Nat => (k : Int)) (fun k h' => k ≤ la.length ∧ Own h' T_uint8 to 1 u8v (List.zipWith (fun x y => y ^^^ Gf.mul c x) (la.take k) (lt.take k) ++ lt.drop k) ∧ Pres (fun b => ¬ to.on b) h h') (fun k => la.length - k) 0 rfl ⟨by omega, by simpa using ht, Pres.refl _ _⟩ ?_
    rintro k h1 ⟨hk, ho1, hp1⟩
    refine br_dec (fun e => ?_) (fun e => ?_)
    · have hk' : k < la.length := by omega
      have hkt : k < lt.length := by omega
      have hzl : (List.zipWith (fun x y => y ^^^ Gf.mul c x) (la.take k) (lt.take k)).length = k := by simp; omega
      have hll : (List.zipWith (fun x y => y ^^^ Gf.mul c x) (la.take k) (lt.take k) ++ lt.drop k).length = lt.length := by rw [List.length_append, hzl, List.length_drop]; omega
      refine (ha.pres hp1).get1 k rfl hk' _ rfl ?_
      have hval : (List.zipWith (fun x y => y ^^^ Gf.mul c x) (la.take k) (lt.take k) ++ lt.drop k)[k]'(by omega) = lt[k] := by
        rw [List.getElem_append_right (by omega)]; simp [hzl]
      refine (ho1.seq (p := fun _ => True) (fun _ => rfl) fun _ _ => trivial).get1A k rfl (by omega) _ rfl fun ax hax => ?_
      rw [hval] at hax ⊢
      refine (mul_spec f c la[k] h1 (hf.pres hp1 hfo)).mono ?_
      rintro v h2 ⟨rfl, rfl⟩
      refine ⟨_, rfl, ⟨hax, trivial⟩, ?_⟩
      dsimp only
      rw [xor_u8]
      refine ho1.set C_ok (fun _ => rfl) rfl k rfl (by omega) _ rfl rfl rfl fun h3 ho3 hp3 _ => ⟨trivial, ?_⟩
      refine ⟨k + 1, by rw [wrap_small _ (by omega) (by omega)]; rfl, ⟨by omega, ?_, hp1.trans hp3⟩, by omega⟩
      rw [← zip_take_set hat hkt]; exact ho3
    · have : k = la.length := by omega
      subst this
      rw [List.take_of_length_le (Nat.le_refl _), List.take_of_length_le (by omega), List.drop_of_length_le (by omega), List.append_nil] at ho1
      exact ⟨rfl, ho1, hp1⟩
end Go.Proofs.YtkcplnfomahleaaGreatDoor
namespace Go.Proofs.YtkcplnfomahleaaGreatDoor
open Go Go.Vc Go.Proofs Wl
set_option maxRecDepth 100000
abbrev matA (a : Sl) (rs : List Sl) (m : Mat) : List HP := OwnA T_sl_uint8 a 1 slv rs :: ownRows T_uint8 1 u8v rs m
theorem mat_row {a : Sl} {rs : List Sl} {m : Mat} (hl : rs.length = m.length) (i : Nat) (hi : i < m.length) : (matA a rs m)[i + 1]? = some (OwnA T_uint8 (rs[i]'(by omega)) 1 u8v m[i]) := by
  rw [List.getElem?_cons_succ]; exact ownRows_get hl i hi
theorem held_up {h h' : Heap} {a : Addr} {v : Value} (hc : cellOf h a = some v) (hp : Pres (fun b => b < h.size) h h') : cellOf h' a = some v := hp.cell (lt_of_cell hc) hc
theorem elim_loop {B : Blocks} {h0 : Heap} {f : Addr} (hf0 : FieldB h0 f) (hfB : B f.block) {a : Sl} {n top col : Nat} {rs : List Sl} {m : Mat} (hl : rs.length = m.length) (hm : evenB n m) (hc : col < n) (hn : n ≤ 64) (ht : top < m.length) (hs : m.length ≤ 2 ^ 30)
    {h : Heap} (H : SpB B h0 h (matA a rs m)) {K : Heap → Prop} (hk : ∀ h', SpB B h0 h' (matA a rs (elimB top col m m.length)) → K h') :
  LoopM (σ := Int) (fun s20 K4 h10 =>
  Br (decide (s20 < ((a.len : Nat) : Int)))
  (Br (s20 != (top : Int))
  (∃ a21 : Addr, (a.ptr = some a21 ∧ 0 ≤ s20 ∧ s20 < ((a.len : Nat) : Int)) ∧
  ∃ x22 : Sl, cellOf h10 (a21.add (s20.toNat * 1)) = some (.slice x22.ptr x22.len x22.cap) ∧
  ∃ a23 : Addr, (x22.ptr = some a23 ∧ 0 ≤ (col : Int) ∧ (col : Int) < ((x22.len : Nat) : Int)) ∧
  ∃ x24 : Int, cellOf h10 (a23.add ((col : Int).toNat * 1)) = some (.int .u8 x24) ∧
  ∃ a25 : Addr, (a.ptr = some a25 ∧ 0 ≤ (top : Int) ∧ (top : Int) < ((a.len : Nat) : Int)) ∧
  ∃ x26 : Sl, cellOf h10 (a25.add ((top : Int).toNat * 1)) = some (.slice x26.ptr x26.len x26.cap) ∧
  ∃ a27 : Addr, (a.ptr = some a27 ∧ 0 ≤ s20 ∧ s20 < ((a.len : Nat) : Int)) ∧
  ∃ x28 : Sl, cellOf h10 (a27.add (s20.toNat * 1)) = some (.slice x28.ptr x28.len x28.cap) ∧
  CallM Tryz.prog mat_add_id #[(.pointer (some f)), (.int .u8 x24), (.slice x26.ptr x26.len x26.cap), (.slice x28.ptr x28.len x28.cap)] (.many []) h10 fun _ h11 =>
  (Held.ok [(a21.add (s20.toNat * 1), (.slice x22.ptr x22.len x22.cap))] h11) ∧
  K4 (IntKind.wrap .i64 (s20 + (1 : Int))) h11)
  (K4 (IntKind.wrap .i64 (s20 + (1 : Int))) h10))
  (K h10)) (0 : Int) h := by
  have hal : a.len = m.length := by rw [(H.own 0 rfl).len, hl]
  refine loop_inv (fun k : Nat => (k : Int)) (fun k h' => k ≤ m.length ∧ SpB B h0 h' (matA a rs (elimB top col m k))) (fun k => m.length - k) 0 rfl ⟨by omega, by rw [elim_zero]; exact H⟩ ?_
  rintro k h1 ⟨hk1, H1⟩
  have hel := elim_len top col m k
  have hle : rs.length = (elimB top col m k).length := by rw [hel]; exact hl
  refine br_dec (fun e => ?_) (fun e => ?_)
  · have hk' : k < m.length := by omega
    refine br_ne (fun e2 => ?_) (fun e2 => ?_)
    · have hkt : k ≠ top := fun hh => e2 (by rw [hh])
      have hrk : rowB (elimB top col m k) k = rowB m k := by rw [elim_row hk', if_neg (by omega)]
      have hrt : rowB (elimB top col m k) top = rowB m top := by rw [elim_row ht, if_neg (by omega)]
      have e4 : (elimB top col m k)[k]'(by omega) = rowB m k := by rw [← hrk, row_lt]
      have e5 : (elimB top col m k)[top]'(by omega) = rowB m top := by rw [← hrt, row_lt]
      have gk := mat_row (a := a) hle k (by omega)
      have gt := mat_row (a := a) hle top (by omega)
      rw [e4] at gk
      rw [e5] at gt
      have lk := even_row hm hk'
      have lt := even_row hm ht
      have hoff := H1.off (k + 1) 0 (by omega) gk rfl
      have hs1 := hoff.1.seq (fun _ => rfl) hoff.2
      refine hs1.getS k rfl (by omega) fun a1 ha1 hb1 => ?_
      have hrd := H1.seq (k + 1) gk (fun _ => rfl)
      refine hrd.get1 col rfl (by omega) _ rfl ?_
      refine hs1.getS top rfl (by omega) fun _ _ _ => ?_
      refine hs1.getS k rfl (by omega) fun _ _ _ => ?_
      have hrt2 : (SeqA (rs[top]'(by omega)) 1 u8v (rowB m top)).p h1 (fun b => ¬ (rs[k]'(by omega)).on b) := by
        have := H1.off (k + 1) (top + 1) (by omega) gk gt
        exact (this.1.seq (fun _ => rfl) this.2).mono fun b hb => hb.2
      refine (add_spec f _ _ _ (rowB m top) (rowB m k) h1 (hf0.pres H1.pres hfB) (H1.base (k + 1) gk hfB) hrt2 (H1.own (k + 1) gk) (by omega) (by omega)).mono ?_
      rintro v h2 ⟨rfl, ho2, hp2⟩
      have H2 := H1.ownStep (k + 1) gk hp2 ho2
      have ha2 := hp2.cell hb1.2 ha1
      refine ⟨(), rfl, ⟨ha2, trivial⟩, ?_⟩
      refine ⟨k + 1, by rw [wrap_small _ (by omega) (by omega)]; rfl, ⟨by omega, ?_⟩, by omega⟩
      rw [elim_succ hk' hkt]
      show SpB B h0 h2 (OwnA T_sl_uint8 a 1 slv rs :: ownRows T_uint8 1 u8v rs ((elimB top col m k).set k _))
      rw [← ownRows_set' hle k (by omega)]
      have hcol : (rowB m k)[col]'(by omega) = colB (rowB m k) col := (col_lt (by omega)).symm
      rw [hcol] at H2
      exact H2
    · have hkt : k = top := by omega
      subst hkt
      exact ⟨k + 1, by rw [wrap_small _ (by omega) (by omega)]; rfl, ⟨by omega, by rw [elim_skip]; exact H1⟩, by omega⟩
  · have : k = m.length := by omega
    subst this
    exact hk _ H1
theorem ownRows_swap {rs : List Sl} {m : Mat} (hl : rs.length = m.length) (i j : Nat) (hi : i < m.length) (hj : j < m.length) :
    ((ownRows T_uint8 1 u8v rs m).set i (OwnA T_uint8 (rs[j]'(by omega)) 1 u8v m[j])).set j (OwnA T_uint8 (rs[i]'(by omega)) 1 u8v m[i]) = ownRows T_uint8 1 u8v ((rs.set i (rs[j]'(by omega))).set j (rs[i]'(by omega))) (swapB m i j) := by
  rw [ownRows_set hl, ownRows_set (by simpa using hl), swapB, row_lt hi, row_lt hj]
theorem reduce_spec {B : Blocks} {h0 : Heap} {f : Addr} (hf0 : FieldB h0 f) (hfB : B f.block) {a : Sl} {n cols : Nat} {rs : List Sl} {m : Mat} (hl : rs.length = m.length) (hm : evenB n m) (hc : cols ≤ n) (hn : n ≤ 64) (hs : m.length ≤ 2 ^ 30)
    {h : Heap} (H : SpB B h0 h (matA a rs m)) : Meets Tryz.prog mat_reduce_id #[.pointer (some f), .slice a.ptr a.len a.cap, .int .i64 cols] h fun v h' =>
      ∃ rs' : List Sl, v = .int .i64 (reduceB m cols).1 ∧ rs'.length = m.length ∧ SpB B h0 h' (matA a rs' (reduceB m cols).2) := by
  have hal : a.len = m.length := by rw [(H.own 0 rfl).len, hl]
  refine mat_reduce_run (some f) a cols ?_
  unfold mat_reduce_m
  refine loop_inv (fun t : List Sl × Nat => (((reduceB m t.2).1 : Int), (t.2 : Int))) (fun t h' => t.2 ≤ cols ∧ t.1.length = m.length ∧ SpB B h0 h' (matA a t.1 (reduceB m t.2).2)) (fun t => cols - t.2) (rs, 0) rfl ⟨by simp, hl, H⟩ ?_
  rintro ⟨rs1, col⟩ h1 ⟨hk, hl1, H1⟩
  dsimp only at *
  have hev := reduce_even hm col
  have htop := reduce_top m col
  obtain ⟨st, hst⟩ : ∃ st, st = reduceB m col := ⟨_, rfl⟩
  rw [← hst] at hev htop H1 ⊢
  obtain ⟨top, m1⟩ := st
  dsimp only at hev htop H1 ⊢
  have hlm : rs1.length = m1.length := by omega
  have hstep : reduceB m (col + 1) = stepB (top, m1) col := by rw [reduceB, ← hst]
  refine br_dec (fun e => ?_) (fun e => ?_)
  · have hcn : col < n := by omega
    have hrd2 : Rd2 h1 a 1 u8v m1 := H1.mat hlm (fun _ => rfl)
    refine (begins_spec a m1 n top col h1 hrd2 hev.1 hcn (by omega)).mono ?_
    rintro v h2 ⟨rfl, rfl⟩
    refine ⟨_, rfl, ?_⟩
    dsimp only
    cases hb : beginsB m1 top col with
    | none =>
      refine br_dec (fun _ => ?_) (fun e2 => absurd (by decide) e2)
      refine ⟨(rs1, col + 1), ?_, ⟨by dsimp only; omega, hl1, ?_⟩, by dsimp only; omega⟩
      · dsimp only; rw [hstep, stepB, hb, wrap_small _ (by omega) (by omega)]; rfl
      · dsimp only; rw [hstep, stepB, hb]; exact H1
    | some i =>
      have hh := begins_some hb
      refine br_dec (fun e2 => absurd (show ((i : Nat) : Int) < 0 from e2) (by omega)) (fun _ => ?_)
      dsimp only
      have hti : top < m1.length := by omega
      have hi := hh.2.1
      have hsq := H1.seq 0 rfl (fun _ => rfl)
      refine join_in ?_
      refine hsq.getS i rfl (by omega) fun _ _ _ => ?_
      refine hsq.getS top rfl (by omega) fun _ _ _ => ?_
      refine H1.set C_ok 0 rfl (fun _ => rfl) rfl top rfl (by omega) (rs1[i]'(by omega)) rfl rfl rfl fun h3 H3 => ⟨trivial, ?_⟩
      refine H3.set C_ok 0 rfl (fun _ => rfl) rfl i rfl (by simp; omega) (rs1[top]'(by omega)) rfl rfl rfl fun h4 H4 => ⟨trivial, ?_⟩
      have H4' : SpB B h0 h4 (matA a ((rs1.set top (rs1[i]'(by omega))).set i (rs1[top]'(by omega))) (swapB m1 top i)) := by
        have := H4.swap2 (top + 1) (i + 1) (A := OwnA T_uint8 (rs1[top]'(by omega)) 1 u8v m1[top]) (A2 := OwnA T_uint8 (rs1[i]'(by omega)) 1 u8v m1[i]) (ownRows_get hlm top hti) (ownRows_get hlm i hi)
        show SpB B h0 h4 (OwnA T_sl_uint8 a 1 slv _ :: ownRows T_uint8 1 u8v _ _)
        rw [← ownRows_swap hlm top i hti hi]
        exact this
      obtain ⟨rs2, hrs2⟩ : ∃ rs2, rs2 = (rs1.set top (rs1[i]'(by omega))).set i (rs1[top]'(by omega)) := ⟨_, rfl⟩
      rw [← hrs2] at H4'
      have hl2 : rs2.length = m1.length := by rw [hrs2]; simp; omega
      obtain ⟨m2, hm2⟩ : ∃ m2, m2 = swapB m1 top i := ⟨_, rfl⟩
      have hev2 : evenB n m2 := by rw [hm2]; exact swap_even hev.1 hti hi
      have hlm2 : m2.length = m1.length := by rw [hm2]; exact swap_len' _ _ _
      rw [← hm2] at H4'
      have hlr2 : rs2.length = m2.length := by omega
      have htm2 : top < m2.length := by omega
      refine join_in ?_
      have gt := mat_row (a := a) hlr2 top htm2
      have lt : m2[top].length = n := hev2 _ (List.getElem_mem _)
      have hs4 := H4'.seq 0 rfl (fun _ => rfl)
      refine hs4.getS top rfl (by omega) fun a10 ha10 _ => ?_
      have hrow := H4'.seq (top + 1) gt (fun _ => rfl)
      refine hrow.get1 col rfl (by omega) _ rfl ?_
      refine hs4.getS top rfl (by omega) fun a14 ha14 _ => ?_
      have hf4 : FieldB h4 f := hf0.pres H4'.pres hfB
      refine (inv_spec f _ h4 hf4).mono ?_
      rintro v h5 ⟨rfl, rfl⟩
      refine ⟨_, rfl, ⟨ha14, ha10, trivial⟩, ?_⟩
      refine (scale_spec f _ _ _ h5 hf4 hrow (by omega)).mono ?_
      rintro v h6 ⟨r, rfl, R6⟩
      refine ⟨r, rfl, ⟨held_up ha10 R6.pres, trivial⟩, ?_⟩
      have H6 := H4'.comp R6
      dsimp only
      refine H6.set C_ok 0 rfl (fun _ => rfl) rfl top rfl (by omega) r rfl rfl rfl fun h7 H7 => ⟨trivial, ?_⟩
      have hrt : m2[top] = rowB m2 top := (row_lt htm2).symm
      have hct : (m2[top])[col]'(by omega) = colB (rowB m2 top) col := by rw [col_lt (by rw [row_lt htm2]; omega)]; simp only [row_lt htm2]
      have H7' : SpB B h0 h7 (matA a (rs2.set top r) (normB top col m2)) := by
        have h8 : SpB B h0 h7 ((OwnA T_sl_uint8 a 1 slv (rs2.set top r) :: ownRows T_uint8 1 u8v rs2 m2) ++ [OwnA T_uint8 r 1 u8v (scaleB (Gf.inv ((m2[top])[col]'(by omega))) m2[top])]) := H7
        have h9 := h8.swapIn (top + 1) (by simp [ownRows_len hlr2]; omega)
        rw [hct, hrt] at h9
        show SpB B h0 h7 (OwnA T_sl_uint8 a 1 slv _ :: ownRows T_uint8 1 u8v _ (m2.set top _))
        rw [← ownRows_set hlr2]
        exact h9
      have hlen3 : (normB top col m2).length = m2.length := norm_len _ _ _
      refine elim_loop hf0 hfB (by simp; omega) (norm_even hev2 htm2) hcn hn (by omega) (by omega) H7' fun h8 H8 => ?_
      have hsome : stepB (top, m1) col = (top + 1, elimB top col (normB top col m2) m1.length) := by
        rw [stepB]; dsimp only; rw [hb, hm2]
      refine ⟨(rs2.set top r, col + 1), ?_, ⟨by dsimp only; omega, by simp; omega, ?_⟩, by dsimp only; omega⟩
      · dsimp only; rw [hstep, hsome, wrap_small _ (by omega) (by omega), wrap_small _ (by omega) (by omega)]; rfl
      · dsimp only; rw [hstep, hsome]; rw [hlen3, hlm2] at H8; exact H8
  · have : col = cols := by omega
    subst this
    exact ⟨rs1, by rw [← hst], hl1, by rw [← hst]; exact H1⟩
theorem Reduce_spec (f : Addr) (a : Sl) (m : Mat) (n : Nat) (h : Heap) (hf : FieldB h f) (ha : Rd2 h a 1 u8v m) (hm : evenB n m) (hn : n ≤ 64) (hs : m.length ≤ 2 ^ 30) :
    Meets Tryz.prog mat_Reduce_id #[.pointer (some f), .slice a.ptr a.len a.cap] h fun v h' => ∃ (r : Sl) (rs : List Sl), v = .slice r.ptr r.len r.cap ∧ r.len = rankB m ∧ rs.length = m.length ∧ r.len ≤ m.length ∧ Sp h h' (matA ⟨r.ptr, m.length, r.cap⟩ rs (reduceB m (widthB m)).2) := by
  refine mat_Reduce_run (some f) a ?_
  unfold mat_Reduce_m
  refine (mat_May_spec a m n h ha hm hn hs).mono ?_
  rintro v h1 ⟨rfl, rfl⟩
  refine ⟨_, rfl, br_not (fun e => by cases e) fun _ => ?_⟩
  refine (mat_own_spec a m n h1 ha hm hn hs).mono ?_
  rintro v h2 ⟨r, rs, rfl, hl, R2⟩
  refine ⟨r, rfl, (mat_sure_spec f h2).mono ?_⟩
  rintro v h3 ⟨rfl, rfl⟩
  refine ⟨some f, rfl, (mat_width_spec r m h3 (R2.mat hl (fun _ => rfl))).mono ?_⟩
  rintro v h4 ⟨rfl, rfl⟩
  have hw : widthB m ≤ n := by
    cases m with
    | nil => simp [widthB, rowB]
    | cons x t => rw [widthB, row_lt (by simp)]; exact Nat.le_of_eq (hm _ (by simp))
  refine ⟨_, rfl, (reduce_spec hf hf.lt hl hm hw hn hs R2).mono ?_⟩
  rintro v h5 ⟨rs', rfl, hl', R5⟩
  have htop := reduce_top m (widthB m)
  rw [(reduce_even hm _).2] at htop
  have hcap := (R5.own 0 rfl).cap
  have hlen := (R5.own 0 rfl).len
  refine ⟨_, rfl, ⟨Int.natCast_nonneg _, Int.ofNat_le.2 (show (reduceB m (widthB m)).1 ≤ r.cap by omega)⟩, ⟨r.ptr, (reduceB m (widthB m)).1, r.cap⟩, rs', by simp, rfl, hl', htop, ?_⟩
  have : r = ⟨r.ptr, m.length, r.cap⟩ := by
    obtain ⟨p, l, c⟩ := r
    simp only at hlen ⊢
    rw [← hl', ← hlen]
  rw [← this]; exact R5
theorem Rank_spec (f : Addr) (a : Sl) (m : Mat) (n : Nat) (h : Heap) (hf : FieldB h f) (ha : Rd2 h a 1 u8v m) (hm : evenB n m) (hn : n ≤ 64) (hs : m.length ≤ 2 ^ 30) :
    Meets Tryz.prog mat_Rank_id #[.pointer (some f), .slice a.ptr a.len a.cap] h fun v h' => v = .int .i64 (rankB m) ∧ Sp h h' [] := by
  refine mat_Rank_run (some f) a ?_
  unfold mat_Rank_m
  refine (Reduce_spec f a m n h hf ha hm hn hs).mono ?_
  rintro v h1 ⟨r, rs, rfl, hr, _, _, R1⟩
  exact ⟨r, rfl, by rw [hr], .zip R1.pres⟩
end Go.Proofs.YtkcplnfomahleaaGreatDoor
namespace Go.Proofs.YtkcplnfomahleaaGreatDoor
open Go Go.Vc Go.Proofs Wl
set_option maxRecDepth 100000
theorem gf_sys_Rank_spec (p : Pm) (seed : Int) (ids : Sl) (l : List Int) (h : Heap) (hl : Rd h ids 1 intv l) (hsz : l.length ≤ 2 ^ 29) : Meets Tryz.prog system_Rank_id #[pmv p, .int .u32 seed, .slice ids.ptr ids.len ids.cap] h fun v h' => v = .int .i64 (rankI p seed l) ∧ Sp h h' [] := by
  refine system_Rank_run p seed ids ?_
  unfold system_Rank_m
  refine (Sp.refl h).boxed fun a h1 H1 => ?_
  refine ⟨p, (H1.box 0 rfl).cells0 _ rfl, (gfNew_spec h1).mono ?_⟩
  rintro v h2 ⟨f, rfl, R2⟩
  have H2 := H1.comp R2
  have hb := H2.box 0 rfl
  refine ⟨some f, rfl, ⟨hb.cell0 rfl, hb.cell rfl, hb.cell rfl, trivial⟩, ?_⟩
  refine (matrix_spec p seed ids l h2 (Seq.up hl H2.pres) (by omega)).mono ?_
  rintro v h3 ⟨r, rfl, R3⟩
  have H3 := H2.comp R3
  refine ⟨r, rfl, trivial, ?_⟩
  have hml := matI_len p seed l
  have hcp : (colsP p).toNat ≤ 64 := by
    unfold colsP
    split
    · rename_i hp; have := (mayP_iff p).1 hp; omega
    · omega
  refine (Rank_spec f r _ _ h3 (H3.box 1 rfl) (H3.rd2 2 rfl) (matI_even p seed l) hcp (by omega)).mono ?_
  rintro v h4 ⟨rfl, R4⟩
  exact ⟨_, rfl, trivial, rfl, .zip (H3.comp R4).pres⟩
theorem full_spec (p : Pm) (seed : Int) (ids : Sl) (l : List Int) (h : Heap) (hl : Rd h ids 1 intv l) (hsz : l.length ≤ 2 ^ 29) : Meets Tryz.prog system_Full_id #[pmv p, .int .u32 seed, .slice ids.ptr ids.len ids.cap] h fun v h' => v = .bool (fullI p seed l) ∧ Sp h h' [] := by
  refine system_Full_run p seed ids ?_
  unfold system_Full_m
  refine (Sp.refl h).boxed fun a h1 H1 => ?_
  refine ⟨p, (H1.box 0 rfl).cells0 _ rfl, (pre_May_spec p h1).mono ?_⟩
  rintro v h2 ⟨rfl, R2⟩
  have H2 := H1.comp R2
  refine ⟨_, rfl, trivial, br_b (fun e => ?_) (fun e => ⟨trivial, trivial, by rw [fullI, e]; rfl, .zip H2.pres⟩)⟩
  have hb := H2.box 0 rfl
  refine ⟨p, hb.cells0 _ rfl, p, hb.cells0 _ rfl, (gf_sys_Rank_spec p seed ids l h2 (Seq.up hl H2.pres) hsz).mono ?_⟩
  rintro v h3 ⟨rfl, R3⟩
  have H3 := H2.comp R3
  have hb3 := H3.box 0 rfl
  refine ⟨_, rfl, ⟨hb3.cell0 rfl, hb3.cell rfl, hb3.cell rfl, trivial⟩, (pre_Cols_spec p h3).mono ?_⟩
  rintro v h4 ⟨rfl, R4⟩
  exact ⟨_, rfl, trivial, by rw [fullI, e]; rfl, .zip (H3.comp R4).pres⟩
theorem right_spec (p : Pm) (seed : Int) (h : Heap) : Meets Tryz.prog system_Right_id #[pmv p, .int .u32 seed] h fun v h' => v = .bool (fullI p seed (firstI p)) ∧ Sp h h' [] := by
  refine system_Right_run p seed ?_
  unfold system_Right_m
  refine (Sp.refl h).boxed fun a h1 H1 => ?_
  have hb := H1.box 0 rfl
  refine ⟨p, hb.cells0 _ rfl, p, hb.cells0 _ rfl, (first_spec p h1).mono ?_⟩
  rintro v h2 ⟨r, rfl, R2⟩
  have H2 := H1.comp R2
  have hb2 := H2.box 0 rfl
  refine ⟨r, rfl, ⟨hb2.cell0 rfl, hb2.cell rfl, hb2.cell rfl, trivial⟩, (full_spec p seed r _ h2 (H2.seq 1 rfl (fun _ => rfl)) (by rw [upto_len]; omega)).mono ?_⟩
  rintro v h3 ⟨rfl, R3⟩
  exact ⟨_, rfl, trivial, rfl, .zip (H2.comp R3).pres⟩
theorem within_spec (x n : Int) (h : Heap) (hn : 0 < n) (hb : n ≤ 2 ^ 62) : Meets Tryz.prog wellspringkeep_Within_id #[.int .i64 x, .int .i64 n] h fun v h' => v = .int .i64 (x % n) ∧ h' = h := by
  refine wellspringkeep_Within_run x n ?_
  unfold wellspringkeep_Within_m
  have h1 := Int.tmod_lt_of_pos x hn
  have h2 : -n < x.tmod n := Int.lt_tmod_of_pos x hn
  have he := tmod_fix x n hn
  refine ⟨by omega, join_in ?_⟩
  refine br_dec (fun hlt => ?_) (fun hge => ?_)
  · rw [wrap_small _ (by omega) (by omega)]
    exact ⟨by rw [he, if_pos hlt], rfl⟩
  · exact ⟨by rw [he, if_neg hge], rfl⟩
end Go.Proofs.YtkcplnfomahleaaGreatDoor
namespace Go.Proofs.YtkcplnfomahleaaGreatDoor
open Go Go.Vc Go.Proofs Wl
set_option maxRecDepth 100000
theorem params_spec (a b c : Int) (h : Heap) : Meets Tryz.prog wellspringplay_Params_id #[.int .i64 a, .int .i64 b, .int .i64 c] h fun v h' => v = pmv (playP a b c) ∧ Sp h h' [] := by
  refine wellspringplay_Params_run a b c ?_
  unfold wellspringplay_Params_m
  refine (Sp.refl h).alloc C_ok rfl fun x h1 H1 => ?_
  refine (within_spec a 16 h1 (by decide) (by decide)).mono ?_
  rintro v h2 ⟨rfl, rfl⟩
  refine ⟨_, rfl, (within_spec b 4 h2 (by decide) (by decide)).mono ?_⟩
  rintro v h3 ⟨rfl, rfl⟩
  refine ⟨_, rfl, (within_spec c 24 h3 (by decide) (by decide)).mono ?_⟩
  rintro v h4 ⟨rfl, rfl⟩
  refine ⟨_, rfl, ?_⟩
  dsimp only
  rw [wrap_small _ (by omega) (by omega), wrap_small _ (by omega) (by omega), wrap_small _ (by omega) (by omega)]
  refine H1.storeAll C_ok 0 rfl rfl [.int .i64 (1 + a % 16), .int .i64 (1 + b % 4), .int .i64 (1 + c % 24)] rfl rfl rfl rfl fun h5 H5 => ?_
  exact ⟨playP a b c, (H5.box 0 rfl).cells0 _ rfl, rfl, .zip H5.pres⟩
end Go.Proofs.YtkcplnfomahleaaGreatDoor
namespace Go.Proofs.YtkcplnfomahleaaGreatDoor
open Go Go.Vc Go.Proofs Wl
set_option maxRecDepth 100000
theorem sameB_spec {p q : Blocks} (a b : Sl) (la lb : Row) (h : Heap) (ha : Seq h p a 1 u8v la) (hb : Seq h q b 1 u8v lb) (hs : la.length ≤ 2 ^ 40) :
    Meets Tryz.prog wellspringkeep_Same_byte_id #[.slice a.ptr a.len a.cap, .slice b.ptr b.len b.cap] h fun v h' => v = .bool (decide (la = lb)) ∧ h' = h := by
  refine wellspringkeep_Same_byte_run a b ?_
  unfold wellspringkeep_Same_byte_m
  have hal := ha.len; have hbl := hb.len
  refine br_ne (fun hne => ⟨?_, rfl⟩) (fun heq => ?_)
  · rw [decide_eq_false (fun e => hne (by rw [hal, hbl, e]))]
  · refine loop_inv (fun k : Nat => (k : Int)) (fun k h' => h' = h ∧ k ≤ la.length ∧ la.take k = lb.take k) (fun k => la.length - k) 0 rfl ⟨rfl, by omega, by simp⟩ ?_
    rintro k h' ⟨rfl, hk, ht⟩
    refine br_dec (fun hlt => ?_) (fun hge => ?_)
    · have hk' : k < la.length := by omega
      have hk2 : k < lb.length := by omega
      refine ha.get1 k rfl hk' _ rfl ?_
      refine hb.get1 k rfl hk2 _ rfl ?_
      refine br_ne (fun hne => ⟨?_, rfl⟩) (fun heq => ?_)
      · rw [decide_eq_false]
        intro e; subst e; exact hne rfl
      · rw [wrap_small _ (by omega) (by omega)]
        have he : la[k] = lb[k] := UInt8.toNat_inj.1 (by omega)
        exact ⟨k + 1, by simp, ⟨rfl, by omega, by rw [take_snoc _ _ hk', take_snoc _ _ hk2, ht, he]⟩, by omega⟩
    · have : k = la.length := by omega
      subst this
      rw [List.take_of_length_le (by omega), List.take_of_length_le (by omega)] at ht
      exact ⟨by rw [decide_eq_true ht], rfl⟩
theorem Rd2.take {α : Type} {h : Heap} {s : Sl} {k : Nat} {f : α → List Value} {ll : List (List α)} (hs : Rd2 h s k f ll) (n : Nat) (hn : n ≤ ll.length) : Rd2 h ⟨s.ptr, n, s.cap⟩ k f (ll.take n) := by
  obtain ⟨rs, hs⟩ := hs
  have hl := hs.len
  refine ⟨rs.take n, hs.top.take n (by omega), by simp; omega, fun i r l h1 h2 => ?_⟩
  rw [List.getElem?_take] at h1 h2
  split at h1
  · rename_i hlt; rw [if_pos hlt] at h2; exact hs.row i r l h1 h2
  · cases h1
end Go.Proofs.YtkcplnfomahleaaGreatDoor
namespace Go.Proofs.YtkcplnfomahleaaGreatDoor
open Go Go.Vc Go.Proofs Wl
set_option maxRecDepth 100000
theorem wrap_u32_eq (x : Int) : IntKind.wrap .u32 x = x % 4294967296 := by simp [IntKind.wrap, IntKind.signed, IntKind.bits]
theorem wrap_wrap_u32 (x : Int) : IntKind.wrap .u32 (IntKind.wrap .u32 x) = IntKind.wrap .u32 x := by
  rw [wrap_u32_eq, wrap_u32_eq]; omega
theorem wrap_u32_add (x y : Int) : IntKind.wrap .u32 (IntKind.wrap .u32 x + y) = IntKind.wrap .u32 (x + y) := by
  rw [wrap_u32_eq, wrap_u32_eq, wrap_u32_eq]; omega
theorem seed_spec (p : Pm) (seed : Int) (h : Heap) : Meets Tryz.prog wellspringlaw11_Seed_id #[pmv p, .int .u64 seed] h fun v h' => ∃ s : Int, v = .int .u32 s ∧ Sp h h' [] := by
  refine wellspringlaw11_Seed_run p seed ?_
  unfold wellspringlaw11_Seed_m
  refine (Sp.refl h).boxed fun a h1 H1 => ?_
  obtain ⟨s0, hs0⟩ : ∃ s0, s0 = IntKind.wrap .u32 seed := ⟨_, rfl⟩
  rw [← hs0]
  refine loop_inv (fun k : Nat => IntKind.wrap .u32 (s0 + (k : Int))) (fun k h' => k ≤ 24 ∧ Sp h h' [BoxA a T_api_Params [.int .i64 p.1, .int .i64 p.2.1, .int .i64 p.2.2]]) (fun k => 24 - k) 0 ?_ ⟨by omega, H1⟩ ?_
  · rw [hs0]; simp [wrap_wrap_u32]
  rintro k h2 ⟨hk, H2⟩
  refine br_ne (fun e => ?_) (fun e => ⟨_, rfl, .zip H2.pres⟩)
  refine ⟨p, (H2.box 0 rfl).cells0 _ rfl, (right_spec p _ h2).mono ?_⟩
  rintro v h3 ⟨rfl, R3⟩
  have H3 := H2.comp R3
  refine ⟨_, rfl, br_b (fun _ => ⟨_, rfl, .zip H3.pres⟩) (fun _ => ?_)⟩
  have hk24 : k ≠ 24 := fun hh => e (by rw [hh]; rfl)
  refine ⟨k + 1, ?_, ⟨by omega, H3⟩, by omega⟩
  rw [wrap_u32_add]
  congr 1
  omega
end Go.Proofs.YtkcplnfomahleaaGreatDoor
namespace Go.Proofs.YtkcplnfomahleaaGreatDoor
open Go Go.Vc Go.Proofs Wl
set_option maxRecDepth 100000
theorem e_u8sl : ∃ i e2, C.T.get T_sl_uint8 = some i ∧ i.dsc = .slice e2 := ⟨_, _, rfl, rfl⟩
def paB (A B : Mat) (k : Nat) : Mat := augB (A.take k) (B.take k) ++ A.drop k
theorem pa_len {A B : Mat} (h : B.length = A.length) (k : Nat) : (paB A B k).length = A.length := by simp [paB, augB, h]; omega
theorem pa_get {A B : Mat} (h : B.length = A.length) {k : Nat} (hk : k < A.length) : (paB A B k)[k]? = some A[k] := by
  have : (augB (A.take k) (B.take k)).length = k := by simp [augB]; omega
  rw [paB, List.getElem?_append_right (by omega), this, Nat.sub_self, List.getElem?_drop, Nat.add_zero, List.getElem?_eq_getElem hk]
theorem pa_set {A B : Mat} (h : B.length = A.length) {k : Nat} (hk : k < A.length) : (paB A B k).set k (A[k] ++ B[k]'(by omega)) = paB A B (k + 1) := by
  have hl : (augB (A.take k) (B.take k)).length = k := by simp [augB]; omega
  rw [paB, List.set_append_right _ _ (by omega), hl, Nat.sub_self, List.drop_eq_getElem_cons hk, List.set_cons_zero, paB, take_snoc _ _ hk, take_snoc _ _ (show k < B.length by omega), augB, augB, List.zipWith_append (by simp; omega), List.append_assoc]
  rfl
theorem pa_all {A B : Mat} (h : B.length = A.length) : paB A B A.length = augB A B := by
  rw [paB, List.take_length, ← h, List.take_length, h, List.drop_length, List.append_nil]
set_option maxHeartbeats 1000000 in
theorem solve_spec (f : Addr) (a b : Sl) (A B : Mat) (n w : Nat) (h : Heap) (hf : FieldB h f) (ha : Rd2 h a 1 u8v A) (hb : Rd2 h b 1 u8v B) (hl : A.length = n) (hlb : B.length = n) (hA : evenB n A) (hB : evenB w B) (hn1 : 1 ≤ n) (hn : n + w ≤ 64) (hr : rankB A = n) :
    Meets Tryz.prog mat_Solve_id #[.pointer (some f), .slice a.ptr a.len a.cap, .slice b.ptr b.len b.cap] h fun v h' => ∃ r : Sl, v = .tuple #[.slice r.ptr r.len r.cap, .int .i64 0] ∧ Sp h h' [RowsA T_sl_uint8 r 1 u8v (solB n A B)] := by
  have hlen : B.length = A.length := by omega
  have hla := ha.len; have hlb' := hb.len
  refine mat_Solve_run (some f) a b ?_
  unfold mat_Solve_m
  refine join_in ?_
  refine (mat_May_spec a A n h ha hA (by omega) (by omega)).mono ?_
  rintro v h1 ⟨rfl, rfl⟩
  refine ⟨_, rfl, br_not (fun e => by cases e) fun _ => ?_⟩
  refine (mat_May_spec b B w h1 hb hB (by omega) (by omega)).mono ?_
  rintro v h2 ⟨rfl, rfl⟩
  refine ⟨_, rfl, br_not (fun e => by cases e) fun _ => ?_⟩
  refine br_ne (fun e => absurd (by rw [hla, hlb', hlen]) e) fun _ => ?_
  refine br_eq (fun e => by omega) fun _ => ?_
  refine (mat_width_spec a A h2 ha).mono ?_
  rintro v h3 ⟨rfl, rfl⟩
  have hwA : widthB A = n := by
    cases A with
    | nil => simp at hl; omega
    | cons x t => rw [widthB, row_lt (by simp)]; exact hA _ (by simp)
  refine ⟨_, rfl, ?_⟩
  rw [hwA]
  refine (mat_own_spec a A n h3 ha hA (by omega) (by omega)).mono ?_
  rintro v h4 ⟨r, rs, rfl, hrs, R4⟩
  refine ⟨r, rfl, ?_⟩
  have hrl0 := (R4.own 0 rfl).len
  refine loop_inv (fun t : Nat × List Sl => (t.1 : Int)) (fun t h' => t.1 ≤ n ∧ t.2.length = n ∧ Sp h3 h' (matA r t.2 (paB A B t.1))) (fun t => n - t.1) (0, rs) rfl ⟨by simp, by dsimp only; omega, by simpa [paB, augB] using R4⟩ ?_
  rintro ⟨k, rs⟩ h5 ⟨hk, hrk, H5⟩
  dsimp only at *
  have hle : rs.length = (paB A B k).length := by rw [pa_len hlen]; omega
  refine br_dec (fun e => ?_) (fun e => ?_)
  · have hk' : k < n := by omega
    have hkA : k < A.length := by omega
    have gk := mat_row (a := r) hle k (by rw [pa_len hlen]; omega)
    have eg : (paB A B k)[k]'(by rw [pa_len hlen]; omega) = A[k] := by
      have := pa_get hlen hkA
      rw [List.getElem?_eq_getElem (by rw [pa_len hlen]; omega)] at this
      exact Option.some.inj this
    rw [eg] at gk
    have l1 : A[k].length = n := hA _ (List.getElem_mem _)
    have l2 : (B[k]'(by omega)).length = w := hB _ (List.getElem_mem _)
    refine (H5.seq 0 rfl (fun _ => rfl)).getS k rfl (by omega) fun a1 ha1 hb1 => ?_
    refine (hb.up H5.pres).get k rfl (by omega) fun rb hrb => ?_
    refine H5.append C_ok (k + 1) gk eU8 e_u8sl rfl (by decide) (fun _ => rfl) hrb one_u8 (by omega) fun s6 h6 H6 => ⟨trivial, ?_⟩
    refine H6.set C_ok 0 rfl (fun _ => rfl) rfl k rfl (by omega) s6 rfl rfl rfl fun h7 H7 => ⟨trivial, ?_⟩
    refine ⟨(k + 1, rs.set k s6), by dsimp only; rw [wrap_small _ (by omega) (by omega)]; rfl, ⟨by dsimp only; omega, by dsimp only; simp; omega, ?_⟩, by dsimp only; omega⟩
    dsimp only
    rw [← pa_set hlen hkA]
    show Sp h3 h7 (OwnA T_sl_uint8 r 1 slv (rs.set k s6) :: ownRows T_uint8 1 u8v (rs.set k s6) ((paB A B k).set k _))
    rw [← ownRows_set hle]
    exact H7
  · have hkn : k = A.length := by omega
    subst hkn
    rw [pa_all hlen] at H5
    refine (mat_sure_spec f h5).mono ?_
    rintro v h6 ⟨rfl, rfl⟩
    refine ⟨some f, rfl, ?_⟩
    have hev := aug_even hlen.symm hA hB
    have hal := aug_len hlen.symm
    refine (reduce_spec (m := augB A B) (n := n + w) hf hf.lt (by omega) hev (by omega) (by omega) (by omega) H5).mono ?_
    rintro v h7 ⟨rs', rfl, hrs', R7⟩
    rw [aug_rank hlen.symm hA, hr]
    refine ⟨_, rfl, ?_⟩
    dsimp only
    have hcap := (R7.own 0 rfl).cap
    have hrl := (R7.own 0 rfl).len
    have h2 := reduce_even hev n
    refine br_dec (fun e => absurd (show (n : Int) < (n : Int) from e) (by omega)) fun _ => ?_
    refine ⟨⟨Int.natCast_nonneg _, Int.ofNat_le.2 (show n ≤ r.len by omega)⟩, ?_⟩
    refine loop_inv (fun _ : Unit => (0 : Int)) (fun _ h' => h' = h7) (fun _ => 0) () rfl rfl ?_
    rintro _ h8 rfl
    rw [Int.toNat_natCast]
    refine br_dec (fun e => by omega) fun _ => ?_
    refine ⟨⟨Int.natCast_nonneg _, Int.ofNat_le.2 (show n ≤ r.cap by omega)⟩, ?_⟩
    obtain ⟨M, hM⟩ : ∃ M, M = (reduceB (augB A B) n).2 := ⟨_, rfl⟩
    have hMl : M.length = n := by have := h2.2; rw [← hM] at this; omega
    have hMe : evenB (n + w) M := by rw [hM]; exact h2.1
    have hsol : ∀ k (hk : k < n), (solB n A B).take (k + 1) = (solB n A B).take k ++ [(M[k]'(by omega)).drop n] := fun k hk => by
      have e1 : solB n A B = M.map (List.drop n) := by rw [solB, ← hM, List.take_of_length_le (by omega)]
      rw [e1, take_snoc _ _ (by simp; omega), List.getElem_map]
    have hsl : (solB n A B).length = n := (sol_len hlen.symm hA hB hr).1
    rw [← hM] at R7
    refine loop_inv (fun t : Sl × Nat => (t.1, (t.2 : Int))) (fun t h' => t.2 ≤ n ∧ Sp h8 h' [RowsA T_sl_uint8 t.1 1 u8v ((solB n A B).take t.2)]) (fun t => n - t.2) (⟨none, 0, 0⟩, 0) rfl ⟨by simp, (Sp.refl h8).rows0 T_sl_uint8 1 u8v⟩ ?_
    rintro ⟨s, k⟩ h9 ⟨hk9, H9⟩
    dsimp only at *
    have HH := R7.comp H9
    have hlM : rs'.length = M.length := by omega
    refine br_dec (fun e => ?_) (fun e => ?_)
    · have hk' : k < n := by omega
      have gk := mat_row (a := r) hlM k (by omega)
      have gk' : (matA r rs' M ++ [RowsA T_sl_uint8 s 1 u8v ((solB n A B).take k)])[k + 1]? = some (OwnA T_uint8 (rs'[k]'(by omega)) 1 u8v (M[k]'(by omega))) := by
        rw [List.getElem?_append_left (by simp [ownRows]; omega)]; exact gk
      have hml : (M[k]'(by omega)).length = n + w := hMe _ (List.getElem_mem _)
      have hso := HH.own (k + 1) gk'
      have hsr := HH.seq (k + 1) gk' (fun _ => rfl)
      have hsl2 := hso.len
      have hsq := (HH.seq 0 rfl (fun _ => rfl)).take n (by omega)
      rw [List.take_of_length_le (by omega)] at hsq
      refine hsq.getS k rfl (by omega) fun a1 ha1 hb1 => ?_
      refine ⟨⟨Int.natCast_nonneg _, Int.ofNat_le.2 (by omega)⟩, ?_⟩
      refine (cloneB_spec _ _ h9 (hsr.drop n hso.cap) (by simp; omega)).mono ?_
      rintro v h10 ⟨c, rfl, R10⟩
      have H10 := (H9.comp R10).freeze 1 rfl (fun _ => rfl)
      refine ⟨c, rfl, ?_⟩
      refine H10.rowPush C_ok 0 1 (by decide) rfl rfl eSlU8 (by simp; omega) fun s' h11 H11 => ?_
      refine ⟨(s', k + 1), by dsimp only; rw [wrap_small _ (by omega) (by omega)]; rfl, ⟨by dsimp only; omega, ?_⟩, by dsimp only; omega⟩
      dsimp only
      rw [hsol k hk']
      exact H11.del 1
    · rw [List.take_of_length_le (by omega)] at H9
      refine ⟨s, rfl, ?_⟩
      have := (Sp.zip R7.pres).comp H9
      exact this
end Go.Proofs.YtkcplnfomahleaaGreatDoor
namespace Go.Proofs.YtkcplnfomahleaaGreatDoor
open Go Go.Vc Go.Proofs Wl
set_option maxRecDepth 100000
theorem lead_fn (h : Heap) (x : UInt8) : Meets Tryz.prog row_Lead_1_id #[.int .u8 x.toNat] h fun v h' => v = .bool (x != 0) ∧ h' = h := by
  refine row_Lead_1_run _ ?_
  unfold row_Lead_1_m
  refine ⟨?_, rfl⟩
  congr 1
  by_cases hx : x = 0
  · subst hx; rfl
  · have : ((x.toNat : Nat) : Int) ≠ 0 := fun hh => hx (nat0.1 hh)
    rw [bne_iff_ne.2 hx]; exact bne_iff_ne.2 this
theorem lead_spec (a : Sl) (l : Row) (h : Heap) (ha : Rd h a 1 u8v l) (hl : l.length ≤ 2 ^ 30) : Meets Tryz.prog row_Lead_id #[.slice a.ptr a.len a.cap] h fun v h' => v = .int .i64 (if leadB l < l.length then (leadB l : Int) else -1) ∧ h' = h := by
  refine row_Lead_run a ?_
  unfold row_Lead_m
  refine (slices_IndexFunc_byte_byte_run a (row_Lead_1_id, #[]) (R := fun v h' => v = .int .i64 (if leadB l < l.length then (leadB l : Int) else -1) ∧ h' = h) ?_).mono ?_
  · unfold slices_IndexFunc_byte_byte_m
    have hal := ha.len
    refine loop_inv (fun i : Nat => (i : Int)) (fun i h' => h' = h ∧ i ≤ l.length ∧ ∀ j (hj : j < l.length), j < i → l[j] = 0) (fun i => l.length - i) 0 rfl ⟨rfl, by omega, fun j _ hj => by omega⟩ ?_
    rintro i h1 ⟨rfl, hi, hno⟩
    refine br_dec (fun e => ?_) (fun e => ?_)
    · have hi' : i < l.length := by omega
      refine ha.get1 i rfl hi' _ rfl ?_
      refine dyn_in (by rfl) ?_
      refine (lead_fn h1 l[i]).mono ?_
      rintro v h2 ⟨rfl, rfl⟩
      refine ⟨_, rfl, br_b (fun e2 => ?_) (fun e2 => ?_)⟩
      · have hld : leadB l = i := by
          rw [leadB, List.findIdx_eq hi']
          exact ⟨e2, fun j hj => by simp [hno j (by omega) hj]⟩
        rw [hld, if_pos hi']; exact ⟨rfl, rfl⟩
      · refine ⟨i + 1, by rw [wrap_small _ (by omega) (by omega)]; rfl, ⟨rfl, by omega, fun j hj hji => ?_⟩, by omega⟩
        rcases Nat.lt_succ_iff_lt_or_eq.1 hji with h3 | rfl
        · exact hno j hj h3
        · simpa using e2
    · have hno' : ¬ leadB l < l.length := by
        rw [leadB, List.findIdx_lt_length]
        rintro ⟨x, hx, hx0⟩
        obtain ⟨j, hj, rfl⟩ := List.getElem_of_mem hx
        rw [hno j hj (by omega)] at hx0; simp at hx0
      rw [if_neg hno']; exact ⟨rfl, rfl⟩
  · rintro v h1 ⟨rfl, rfl⟩
    exact ⟨_, rfl, rfl, rfl⟩
end Go.Proofs.YtkcplnfomahleaaGreatDoor
namespace Go.Proofs.YtkcplnfomahleaaGreatDoor
open Go Go.Vc Go.Proofs Wl
set_option maxRecDepth 100000
theorem lead_zero {l : Row} : ¬ leadB l < l.length ↔ l = zeroB l.length := by
  rw [leadB, List.findIdx_lt_length]
  constructor
  · intro h
    refine List.eq_replicate_iff.2 ⟨rfl, fun x hx => ?_⟩
    by_cases hx0 : x = 0
    · exact hx0
    · exact absurd ⟨x, hx, by simpa using hx0⟩ h
  · rintro h ⟨x, hx, hx0⟩
    have := (List.eq_replicate_iff.1 h).2 x hx
    subst this; simp at hx0
set_option maxHeartbeats 1000000 in
theorem solveG_spec (f : Addr) (a b : Sl) (A B : Mat) (m n w : Nat) (h : Heap) (hf : FieldB h f) (ha : Rd2 h a 1 u8v A) (hb : Rd2 h b 1 u8v B) (hl : A.length = m) (hlb : B.length = m) (hA : evenB n A) (hB : evenB w B) (hn1 : 1 ≤ n) (hn : n + w ≤ 64) (hm : m ≤ 2 ^ 20) (hr : rankB A = n) :
    Meets Tryz.prog mat_Solve_id #[.pointer (some f), .slice a.ptr a.len a.cap, .slice b.ptr b.len b.cap] h fun v h' => (calmB n A B ∧ ∃ r : Sl, v = .tuple #[.slice r.ptr r.len r.cap, .int .i64 0] ∧ Sp h h' [RowsA T_sl_uint8 r 1 u8v (solB n A B)]) ∨ (¬ calmB n A B ∧ v = .tuple #[.slice none 0 0, .int .i64 10] ∧ Sp h h' []) := by
  have hnm : n ≤ m := by have := rank_le_rows A hA; omega
  have hlen : B.length = A.length := by omega
  have hla := ha.len; have hlb' := hb.len
  refine mat_Solve_run (some f) a b ?_
  unfold mat_Solve_m
  refine join_in ?_
  refine (mat_May_spec a A n h ha hA (by omega) (by omega)).mono ?_
  rintro v h1 ⟨rfl, rfl⟩
  refine ⟨_, rfl, br_not (fun e => by cases e) fun _ => ?_⟩
  refine (mat_May_spec b B w h1 hb hB (by omega) (by omega)).mono ?_
  rintro v h2 ⟨rfl, rfl⟩
  refine ⟨_, rfl, br_not (fun e => by cases e) fun _ => ?_⟩
  refine br_ne (fun e => absurd (by rw [hla, hlb', hlen]) e) fun _ => ?_
  refine br_eq (fun e => by omega) fun _ => ?_
  refine (mat_width_spec a A h2 ha).mono ?_
  rintro v h3 ⟨rfl, rfl⟩
  have hwA : widthB A = n := by
    cases A with
    | nil => simp at hl; omega
    | cons x t => rw [widthB, row_lt (by simp)]; exact hA _ (by simp)
  refine ⟨_, rfl, ?_⟩
  rw [hwA]
  refine (mat_own_spec a A n h3 ha hA (by omega) (by omega)).mono ?_
  rintro v h4 ⟨r, rs, rfl, hrs, R4⟩
  refine ⟨r, rfl, ?_⟩
  have hrl0 := (R4.own 0 rfl).len
  refine loop_inv (fun t : Nat × List Sl => (t.1 : Int)) (fun t h' => t.1 ≤ m ∧ t.2.length = m ∧ Sp h3 h' (matA r t.2 (paB A B t.1))) (fun t => m - t.1) (0, rs) rfl ⟨by simp, by dsimp only; omega, by simpa [paB, augB] using R4⟩ ?_
  rintro ⟨k, rs⟩ h5 ⟨hk, hrk, H5⟩
  dsimp only at *
  have hle : rs.length = (paB A B k).length := by rw [pa_len hlen]; omega
  refine br_dec (fun e => ?_) (fun e => ?_)
  · have hk' : k < m := by omega
    have hkA : k < A.length := by omega
    have gk := mat_row (a := r) hle k (by rw [pa_len hlen]; omega)
    have eg : (paB A B k)[k]'(by rw [pa_len hlen]; omega) = A[k] := by
      have := pa_get hlen hkA
      rw [List.getElem?_eq_getElem (by rw [pa_len hlen]; omega)] at this
      exact Option.some.inj this
    rw [eg] at gk
    have l1 : A[k].length = n := hA _ (List.getElem_mem _)
    have l2 : (B[k]'(by omega)).length = w := hB _ (List.getElem_mem _)
    refine (H5.seq 0 rfl (fun _ => rfl)).getS k rfl (by omega) fun a1 ha1 hb1 => ?_
    refine (hb.up H5.pres).get k rfl (by omega) fun rb hrb => ?_
    refine H5.append C_ok (k + 1) gk eU8 e_u8sl rfl (by decide) (fun _ => rfl) hrb one_u8 (by omega) fun s6 h6 H6 => ⟨trivial, ?_⟩
    refine H6.set C_ok 0 rfl (fun _ => rfl) rfl k rfl (by omega) s6 rfl rfl rfl fun h7 H7 => ⟨trivial, ?_⟩
    refine ⟨(k + 1, rs.set k s6), by dsimp only; rw [Go.Vc.wrap_small _ (by omega) (by omega)]; rfl, ⟨by dsimp only; omega, by dsimp only; simp; omega, ?_⟩, by dsimp only; omega⟩
    dsimp only
    rw [← pa_set hlen hkA]
    show Sp h3 h7 (OwnA T_sl_uint8 r 1 slv (rs.set k s6) :: ownRows T_uint8 1 u8v (rs.set k s6) ((paB A B k).set k _))
    rw [← ownRows_set hle]
    exact H7
  · have hkn : k = A.length := by omega
    subst hkn
    rw [pa_all hlen] at H5
    refine (mat_sure_spec f h5).mono ?_
    rintro v h6 ⟨rfl, rfl⟩
    refine ⟨some f, rfl, ?_⟩
    have hev := aug_even hlen.symm hA hB
    have hal := aug_len hlen.symm
    refine (reduce_spec (m := augB A B) (n := n + w) hf hf.lt (by omega) hev (by omega) (by omega) (by omega) H5).mono ?_
    rintro v h7 ⟨rs', rfl, hrs', R7⟩
    rw [aug_rank hlen.symm hA, hr]
    refine ⟨_, rfl, ?_⟩
    dsimp only
    have hcap := (R7.own 0 rfl).cap
    have hrl := (R7.own 0 rfl).len
    have h2 := reduce_even hev n
    refine br_dec (fun e => absurd (show (n : Int) < (n : Int) from e) (by omega)) fun _ => ?_
    refine ⟨⟨Int.natCast_nonneg _, Int.ofNat_le.2 (show n ≤ r.len by omega)⟩, ?_⟩
    obtain ⟨M, hM⟩ : ∃ M, M = (reduceB (augB A B) n).2 := ⟨_, rfl⟩
    have hMl : M.length = A.length := by have := h2.2; rw [← hM] at this; omega
    have hMe : evenB (n + w) M := by rw [hM]; exact h2.1
    rw [← hM] at R7
    have hlM : rs'.length = M.length := by omega
    have hcalm : calmB n A B ↔ ∀ i (hi : i < M.length), n ≤ i → M[i] = zeroB M[i].length := by
      unfold calmB; rw [← hM]
      constructor
      · intro hc i hi hn
        refine hc _ (List.mem_iff_getElem?.2 ⟨i - n, ?_⟩)
        rw [List.getElem?_drop, show n + (i - n) = i by omega, List.getElem?_eq_getElem hi]
      · intro hc x hx
        obtain ⟨i, hi, rfl⟩ := List.getElem_of_mem hx
        simp only [List.length_drop] at hi
        rw [List.getElem_drop]; exact hc _ (by omega) (by omega)
    refine loop_inv (fun i : Nat => (i : Int)) (fun i h' => h' = h7 ∧ n + i ≤ M.length ∧ ∀ j (hj : j < M.length), n ≤ j → j < n + i → M[j] = zeroB M[j].length) (fun i => M.length - (n + i)) 0 rfl ⟨rfl, by omega, fun j _ _ _ => by omega⟩ ?_
    rintro i h8 ⟨rfl, hi, hzero⟩
    rw [Int.toNat_natCast]
    refine br_dec (fun e => ?_) (fun e => ?_)
    · have hi' : n + i < M.length := by omega
      have gk := mat_row (a := r) hlM (n + i) (by omega)
      have hml : (M[n + i]'hi').length = n + w := hMe _ (List.getElem_mem _)
      have hsr := R7.seq (n + i + 1) gk (fun _ => rfl)
      have hsq := (R7.seq 0 rfl (fun _ => rfl)).drop n hcap
      have hgd : (rs'.drop n)[i]'(by simp; omega) = rs'[n + i]'(by omega) := List.getElem_drop
      refine hsq.getS i rfl (by simp; omega) fun a1 ha1 hb1 => ?_
      rw [hgd]
      refine (lead_spec _ _ h8 hsr (by omega)).mono ?_
      rintro _ h9 ⟨rfl, rfl⟩
      refine ⟨_, rfl, br_dec (fun e2 => ?_) (fun e2 => ?_)⟩
      · right
        have hld : leadB (M[n + i]'hi') < (M[n + i]'hi').length := by
          by_cases hh : leadB (M[n + i]'hi') < (M[n + i]'hi').length
          · exact hh
          · rw [if_neg hh] at e2; exact absurd e2 (by decide)
        refine ⟨fun hc => ?_, rfl, .zip R7.pres⟩
        have := hcalm.1 hc (n + i) hi' (by omega)
        exact absurd hld (lead_zero.2 this)
      · have hld : ¬ leadB (M[n + i]'hi') < (M[n + i]'hi').length := fun hh => by
          rw [if_pos hh] at e2; exact e2 (Int.natCast_nonneg _)
        refine ⟨i + 1, by rw [Go.Vc.wrap_small _ (by omega) (by omega)]; rfl, ⟨rfl, by omega, fun j hj h1 h2 => ?_⟩, by omega⟩
        by_cases hji : j = n + i
        · subst hji; exact lead_zero.1 hld
        · exact hzero j hj h1 (by omega)
    refine ⟨⟨Int.natCast_nonneg _, Int.ofNat_le.2 (show n ≤ r.cap by omega)⟩, ?_⟩
    have hCalm : calmB n A B := hcalm.2 fun j hj h1 => hzero j hj h1 (by omega)
    have e1 : solB n A B = (M.take n).map (List.drop n) := by rw [solB, ← hM]
    have hsol : ∀ k (hk : k < n), (solB n A B).take (k + 1) = (solB n A B).take k ++ [(M[k]'(by omega)).drop n] := fun k hk => by
      rw [e1, take_snoc _ _ (by simp; omega), List.getElem_map, List.getElem_take]
    have hsl : (solB n A B).length = n := (sol_len hlen.symm hA hB hr).1
    refine loop_inv (fun t : Sl × Nat => (t.1, (t.2 : Int))) (fun t h' => t.2 ≤ n ∧ Sp h8 h' [RowsA T_sl_uint8 t.1 1 u8v ((solB n A B).take t.2)]) (fun t => n - t.2) (⟨none, 0, 0⟩, 0) rfl ⟨by simp, (Sp.refl h8).rows0 T_sl_uint8 1 u8v⟩ ?_
    rintro ⟨s, k⟩ h9 ⟨hk9, H9⟩
    dsimp only at *
    have HH := R7.comp H9
    refine br_dec (fun e => ?_) (fun e => ?_)
    · have hk' : k < n := by omega
      have gk := mat_row (a := r) hlM k (by omega)
      have gk' : (matA r rs' M ++ [RowsA T_sl_uint8 s 1 u8v ((solB n A B).take k)])[k + 1]? = some (OwnA T_uint8 (rs'[k]'(by omega)) 1 u8v (M[k]'(by omega))) := by
        rw [List.getElem?_append_left (by simp [ownRows]; omega)]; exact gk
      have hml : (M[k]'(by omega)).length = n + w := hMe _ (List.getElem_mem _)
      have hso := HH.own (k + 1) gk'
      have hsr := HH.seq (k + 1) gk' (fun _ => rfl)
      have hsl2 := hso.len
      have hsq := (HH.seq 0 rfl (fun _ => rfl)).take n (by omega)
      have hgk : (rs'.take n)[k]'(by simp; omega) = rs'[k]'(by omega) := List.getElem_take
      refine hsq.getS k rfl (by simp; omega) fun a1 ha1 hb1 => ?_
      rw [hgk]
      refine ⟨⟨Int.natCast_nonneg _, Int.ofNat_le.2 (by omega)⟩, ?_⟩
      refine (cloneB_spec _ _ h9 (hsr.drop n hso.cap) (by simp; omega)).mono ?_
      rintro v h10 ⟨c, rfl, R10⟩
      have H10 := (H9.comp R10).freeze 1 rfl (fun _ => rfl)
      refine ⟨c, rfl, ?_⟩
      refine H10.rowPush C_ok 0 1 (by decide) rfl rfl eSlU8 (by simp; omega) fun s' h11 H11 => ?_
      refine ⟨(s', k + 1), by dsimp only; rw [Go.Vc.wrap_small _ (by omega) (by omega)]; rfl, ⟨by dsimp only; omega, ?_⟩, by dsimp only; omega⟩
      dsimp only
      rw [hsol k hk']
      exact H11.del 1
    · rw [List.take_of_length_le (by omega)] at H9
      refine .inl ⟨hCalm, s, rfl, ?_⟩
      have := (Sp.zip R7.pres).comp H9
      exact this
end Go.Proofs.YtkcplnfomahleaaGreatDoor
namespace Go.Proofs.YtkcplnfomahleaaGreatDoor
open Go Go.Vc Go.Proofs Wl
set_option maxRecDepth 100000
def newE (p : Pm) (seed : Int) (l : Nat) : Int := if mayP p && decide ((l : Int) = p.1 * p.2.2) then (if fullI p seed (firstI p) then 0 else 8) else 1
abbrev blkC (p : Pm) (seed : Int) (m : Sl) : List Value := [.int .i64 p.1, .int .i64 p.2.1, .int .i64 p.2.2, .int .u32 seed, .slice m.ptr m.len m.cap]
set_option maxHeartbeats 2000000 in
theorem new_spec (p : Pm) (seed : Int) (data : Sl) (d : Row) (h : Heap) (hd : Rd h data 1 u8v d) (hc : data.len ≤ data.cap) :
    Meets Tryz.prog encode_New_id #[pmv p, .int .u32 seed, .slice data.ptr data.len data.cap] h fun v h' =>
      (newE p seed d.length = 0 → ∃ (b : Addr) (m : Sl), v = .tuple #[.pointer (some b), .int .i64 0] ∧ Sp h h' [RowsA T_sl_uint8 m 1 u8v (midP p seed d), BoxA b T_encode_Block (blkC p seed m)]) ∧
      (newE p seed d.length ≠ 0 → v = .tuple #[.pointer none, .int .i64 (newE p seed d.length)] ∧ Sp h h' []) := by
  have hdl := hd.len
  refine encode_New_run p seed data ?_
  unfold encode_New_m
  refine (Sp.refl h).boxed fun a h1 H1 => ?_
  refine join_in ?_
  refine ⟨p, (H1.box 0 rfl).cells0 _ rfl, (pre_May_spec p h1).mono ?_⟩
  rintro v h2 ⟨rfl, R2⟩
  have H2 := H1.comp R2
  have no : ∀ {h3 : Heap} (x : Int), x ≠ 0 → newE p seed d.length = x → Sp h h3 [BoxA a T_api_Params [.int .i64 p.1, .int .i64 p.2.1, .int .i64 p.2.2]] →
      (newE p seed d.length = 0 → ∃ (b : Addr) (m : Sl), Value.tuple #[.pointer none, .int .i64 x] = .tuple #[.pointer (some b), .int .i64 0] ∧ Sp h h3 [RowsA T_sl_uint8 m 1 u8v (midP p seed d), BoxA b T_encode_Block (blkC p seed m)]) ∧
      (newE p seed d.length ≠ 0 → Value.tuple #[.pointer none, .int .i64 x] = .tuple #[.pointer none, .int .i64 (newE p seed d.length)] ∧ Sp h h3 []) := fun x hx hne H => by
    refine ⟨fun e => absurd (hne.symm.trans e) hx, fun _ => ⟨by rw [hne], .zip H.pres⟩⟩
  refine ⟨_, rfl, br_not (fun e => no 1 (by decide) (by rw [newE, e]; rfl) H2) fun hp => ?_⟩
  have hpp := (mayP_iff p).1 hp
  obtain ⟨K, hK⟩ : ∃ K : Nat, p.1 = K := ⟨p.1.toNat, by omega⟩
  obtain ⟨Hh, hH⟩ : ∃ H : Nat, p.2.1 = H := ⟨p.2.1.toNat, by omega⟩
  obtain ⟨w, hw⟩ : ∃ w : Nat, p.2.2 = w := ⟨p.2.2.toNat, by omega⟩
  have hKw : K * w ≤ 16 * 24 := Nat.mul_le_mul (by omega) (by omega)
  have eKw : p.1 * p.2.2 = ((K * w : Nat) : Int) := by rw [hK, hw, Int.natCast_mul]
  refine ⟨p.1, (H2.box 0 rfl).cell0 rfl, p.2.2, (H2.box 0 rfl).cell rfl, ?_⟩
  rw [eKw, wrap_small _ (by omega) (by omega)]
  refine br_ne (fun e => no 1 (by decide) (by rw [newE, hp, decide_eq_false (by rw [eKw]; intro e2; exact e (by rw [hdl]; exact e2))]; rfl) H2) fun el => ?_
  have hlen : d.length = K * w := by omega
  refine ⟨p, (H2.box 0 rfl).cells0 _ rfl, (right_spec p seed h2).mono ?_⟩
  rintro v h3 ⟨rfl, R3⟩
  have H3 := H2.comp R3
  have hnew : newE p seed d.length = if fullI p seed (firstI p) then 0 else 8 := by rw [newE, hp, decide_eq_true (by rw [eKw, hlen])]; rfl
  refine ⟨_, rfl, br_not (fun e => no 8 (by decide) (by rw [hnew, e]; rfl) H3) fun hf => ?_⟩
  rw [hf, if_pos rfl] at hnew
  have B : BlkOk p seed d K Hh w (K + Hh) := ⟨hp, hf, hK, hH, hw, rfl, by omega, by omega, by omega, by omega, by omega, by omega, hlen⟩
  refine ⟨p.2.1, (H3.box 0 rfl).cell rfl, ?_⟩
  refine loop_inv (fun t : Sl × List Sl => (t.1, (t.2.length : Int))) (fun t h' => t.2.length ≤ Hh ∧ Sp h h' (BoxA a T_api_Params [.int .i64 p.1, .int .i64 p.2.1, .int .i64 p.2.2] :: matA t.1 t.2 (List.replicate t.2.length (zeroB w)))) (fun t => Hh - t.2.length) (⟨none, 0, 0⟩, []) rfl ⟨by simp, H3.nil T_sl_uint8 1 slv⟩ ?_
  rintro ⟨s, rs⟩ h4 ⟨hk, H4⟩
  dsimp only at *
  refine br_dec (fun e => ?_) (fun e => ?_)
  · refine ⟨p.2.2, (H4.box 0 rfl).cell rfl, ?_⟩
    refine H4.make C_ok u8v eU8 (by decide) 0 rfl rfl w w hw hw (Nat.le_refl _) (by omega) fun z h5 hzl hzc H5 => ?_
    refine H5.push C_ok 1 rfl eSlU8 rfl (by decide) (fun _ => rfl) one_sl z rfl (by decide) (by omega) fun s' h6 H6 => ?_
    refine ⟨(s', rs ++ [z]), by dsimp only; rw [wrap_small _ (by omega) (by omega)]; simp, ⟨by simp; omega, ?_⟩, by simp; omega⟩
    dsimp only
    have e7 : matA s' (rs ++ [z]) (List.replicate rs.length (zeroB w) ++ [zeroB w]) = OwnA T_sl_uint8 s' 1 slv (rs ++ [z]) :: (ownRows T_uint8 1 u8v rs (List.replicate rs.length (zeroB w)) ++ [OwnA T_uint8 z 1 u8v (zeroB w)]) := congrArg _ (ownRows_snoc (by simp) z (zeroB w))
    rw [show (rs ++ [z]).length = rs.length + 1 by simp, List.replicate_succ', e7]
    exact H6
  · have hrs : rs.length = Hh := by omega
    rw [hrs] at H4
    refine ⟨p.1, (H4.box 0 rfl).cell0 rfl, ?_⟩
    let own := ownRows T_uint8 1 u8v rs (List.replicate Hh (zeroB w))
    refine loop_inv (fun t : Sl × Nat => (t.1, (t.2 : Int))) (fun t h' => t.2 ≤ K ∧ Sp h h' (BoxA a T_api_Params [.int .i64 p.1, .int .i64 p.2.1, .int .i64 p.2.2] :: OwnA T_sl_uint8 t.1 1 slv (rs ++ (List.range t.2).map (pcOf data w)) :: own)) (fun t => K - t.2) (s, 0) rfl ⟨by simp, by simpa using H4⟩ ?_
    rintro ⟨t, k⟩ h5 ⟨hk5, H5⟩
    dsimp only at *
    refine br_dec (fun e2 => ?_) (fun e2 => ?_)
    · have hk' : k < K := by omega
      have m1 : (k + 1) * w ≤ K * w := Nat.mul_le_mul_right w hk'
      have m2 : k * w ≤ (k + 1) * w := Nat.mul_le_mul_right w (by omega)
      refine ⟨p.2.2, (H5.box 0 rfl).cell rfl, p.2.2, (H5.box 0 rfl).cell rfl, ?_⟩
      rw [wrap_small ((k : Int) + 1) (by omega) (by omega)]
      have e5 : (k : Int) * p.2.2 = ((k * w : Nat) : Int) := by rw [hw, Int.natCast_mul]
      have e6 : ((k : Int) + 1) * p.2.2 = (((k + 1) * w : Nat) : Int) := by rw [hw, Int.natCast_mul]; rfl
      rw [e5, e6, i64_of_nat _ (by omega), i64_of_nat _ (by omega), Int.toNat_natCast, Int.toNat_natCast]
      refine ⟨⟨Int.natCast_nonneg _, Int.ofNat_le.2 m2, Int.ofNat_le.2 (by omega)⟩, ?_⟩
      refine H5.push C_ok 1 rfl eSlU8 rfl (by decide) (fun _ => rfl) one_sl (pcOf data w k) rfl (by decide) (by simp; omega) fun t' h6 H6 => ?_
      refine ⟨(t', k + 1), rfl, ⟨by dsimp only; omega, ?_⟩, by dsimp only; omega⟩
      dsimp only
      rw [List.range_succ, List.map_append, ← List.append_assoc]
      exact H6
    · have hkK : k = K := by omega
      subst hkK
      refine join_in ?_
      have hright : Rd2 h5 t 1 u8v (rightB k Hh w d) := by
        refine ⟨rs ++ (List.range k).map (pcOf data w), H5.seq 1 rfl (fun _ => rfl), by rw [right_len]; simp; omega, fun i r l h1' h2' => ?_⟩
        by_cases hi : i < Hh
        · rw [List.getElem?_append_left (by omega), List.getElem?_eq_getElem (by omega)] at h1'
          rw [rightB, List.getElem?_append_left (by simpa using hi)] at h2'
          have hz : l = zeroB w := by simp [hi] at h2'; exact h2'.symm
          have hr : rs[i]'(by omega) = r := Option.some.inj h1'
          have g : (BoxA a T_api_Params [.int .i64 p.1, .int .i64 p.2.1, .int .i64 p.2.2] :: OwnA T_sl_uint8 t 1 slv (rs ++ (List.range k).map (pcOf data w)) :: own)[i + 2]? = some (OwnA T_uint8 (rs[i]'(by omega)) 1 u8v ((List.replicate Hh (zeroB w))[i]'(by simpa using hi))) := ownRows_get (by simpa using hrs) i (by simpa using hi)
          have := H5.seq (i + 2) g (fun _ => rfl)
          rw [List.getElem_replicate, hr] at this
          rw [hz]; exact this
        · obtain ⟨j, rfl⟩ : ∃ j, i = Hh + j := ⟨i - Hh, by omega⟩
          rw [List.getElem?_append_right (by omega), hrs, Nat.add_sub_cancel_left] at h1'
          rw [rightB, List.getElem?_append_right (by simp), List.length_replicate, Nat.add_sub_cancel_left] at h2'
          have hj : j < k := by
            have := (List.getElem?_eq_some_iff.1 h1').1
            simpa using this
          simp [hj] at h1' h2'
          have m1 : (j + 1) * w ≤ k * w := Nat.mul_le_mul_right w hj
          rw [← h1', ← h2']
          exact (Seq.up hd H5.pres).piece hc w j (by omega)
      have hb5 := H5.box 0 rfl
      refine ⟨p, hb5.cells0 _ rfl, p, hb5.cells0 _ rfl, (gfNew_spec h5).mono ?_⟩
      rintro v h6 ⟨f, rfl, R6⟩
      have hb6 := hb5.pres R6.pres hb5.lt
      refine ⟨some f, rfl, ⟨hb6.cell0 rfl, hb6.cell rfl, hb6.cell rfl, hb6.cell0 rfl, hb6.cell rfl, hb6.cell rfl, trivial⟩, (first_spec p h6).mono ?_⟩
      rintro v h7 ⟨r7, rfl, R7⟩
      have Q7 := R6.comp R7
      have hb7 := hb5.pres Q7.pres hb5.lt
      refine ⟨r7, rfl, ⟨hb7.cell0 rfl, hb7.cell rfl, hb7.cell rfl, trivial⟩, ?_⟩
      refine (matrix_spec p seed r7 (firstI p) h7 (Q7.seq 1 rfl (fun _ => rfl)) (by rw [firstI, upto_len]; omega)).mono ?_
      rintro v h8 ⟨r8, rfl, R8⟩
      have Q8 := Q7.comp R8
      refine ⟨r8, rfl, trivial, ?_⟩
      refine (solve_spec f r8 t _ _ (k + Hh) w h8 (Q8.box 0 rfl) (Q8.rd2 2 rfl) (hright.up Q8.pres) B.matLen (by rw [right_len]) B.matEven (right_even B.len) (by omega) (by omega) B.rank).mono ?_
      rintro v h9 ⟨r9, rfl, R9⟩
      have Q9 := Q8.comp R9
      refine ⟨(r9, 0), rfl, trivial, ?_⟩
      refine br_ne (fun e => absurd rfl e) fun _ => ?_
      have hb9 := hb5.pres Q9.pres hb5.lt
      refine ⟨p, hb9.cells0 _ rfl, ?_⟩
      refine Q9.boxed (t := T_encode_Block) fun b h10 Q10 => ?_
      refine ⟨fun _ => ⟨b, r9, rfl, ?_⟩, fun e => absurd hnew e⟩
      have Q := (Sp.zip H5.pres).comp Q10
      rw [← B.mid] at Q
      exact Q.take 3 (fun i A hi => by
        cases i with
        | zero => exact hi
        | succ i => cases i with
          | zero => exact hi
          | succ i => simp at hi)
end Go.Proofs.YtkcplnfomahleaaGreatDoor
namespace Go.Proofs.YtkcplnfomahleaaGreatDoor
open Go Go.Vc Go.Proofs Wl
set_option maxRecDepth 100000
def BlkA (h : Heap) (b : Addr) (p : Pm) (seed : Int) (M : Mat) : Prop := ∃ m : Sl, Box h b T_encode_Block (blkC p seed m) ∧ Rd2 h m 1 u8v M
theorem BlkA.up {h h' : Heap} {b : Addr} {p : Pm} {seed : Int} {M : Mat} (hb : BlkA h b p seed M) (hp : Pres (fun b => b < h.size) h h') : BlkA h' b p seed M := by
  obtain ⟨m, h1, h2⟩ := hb
  exact ⟨m, h1.pres hp h1.lt, h2.up hp⟩
theorem add_one_zip {a t : Row} (hat : a.length = t.length) {k : Nat} (hk : k < t.length) : (List.zipWith (fun x y => y ^^^ Gf.mul 1 x) (a.take k) (t.take k) ++ t.drop k).set k (t[k] ^^^ (a[k]'(by omega))) = List.zipWith (fun x y => y ^^^ Gf.mul 1 x) (a.take (k + 1)) (t.take (k + 1)) ++ t.drop (k + 1) := by
  have := zip_take_set (c := 1) hat hk
  rw [Gf.one_mul] at this
  exact this
theorem zip_at {a t : Row} (hat : a.length = t.length) {k : Nat} (hk : k < t.length) : (List.zipWith (fun x y => y ^^^ Gf.mul 1 x) (a.take k) (t.take k) ++ t.drop k)[k]? = some t[k] := by
  have hl : (List.zipWith (fun x y => y ^^^ Gf.mul 1 x) (a.take k) (t.take k)).length = k := by simp; omega
  rw [List.getElem?_append_right (by omega), hl, Nat.sub_self, List.getElem?_drop, Nat.add_zero, List.getElem?_eq_getElem hk]
theorem symbol_spec (b : Addr) (p : Pm) (seed id : Int) (M : Mat) (n w : Nat) (h : Heap) (hb : BlkA h b p seed M) (hp : mayP p = true) (hw : p.2.2 = w) (hn : (colsP p).toNat = n) (hM : evenB w M) (hl : M.length = n) :
    Meets Tryz.prog encode_Block_Symbol_id #[.pointer (some b), .int .i64 id] h fun v h' => ∃ r : Sl, v = .slice r.ptr r.len r.cap ∧ Sp h h' [OwnA T_uint8 r 1 u8v (if mayID id then symB w M (colsI n seed id) else [])] := by
  obtain ⟨m, hb1, hm⟩ := hb
  have hml := hm.len
  have hpp := (mayP_iff p).1 hp
  have hc : colsP p = p.1 + p.2.1 := by rw [colsP, if_pos hp]
  refine encode_Block_Symbol_run (some b) id ?_
  unfold encode_Block_Symbol_m
  have no : mayID id = false → ∃ r : Sl, Value.slice none 0 0 = .slice r.ptr r.len r.cap ∧ Sp h h [OwnA T_uint8 r 1 u8v (if mayID id then symB w M (colsI n seed id) else [])] := fun e => by
    rw [e]; exact ⟨⟨none, 0, 0⟩, rfl, (Sp.refl h).nil T_uint8 1 u8v⟩
  refine join_in (br_b (fun e => by cases e) fun _ => br_dec (fun e => no (by simp [mayID]; omega)) fun e1 => br_dec (fun e => no (by simp [mayID]; omega)) fun e2 => ?_)
  have hid : mayID id = true := by simp [mayID]; omega
  refine ⟨b, rfl, p.2.2, hb1.cell rfl, ?_⟩
  refine (Sp.refl h).make C_ok u8v eU8 (by decide) 0 rfl rfl w w hw hw (Nat.le_refl _) (by omega) fun o h1 hol hoc H1 => ?_
  have hb2 := hb1.pres H1.pres hb1.lt
  refine ⟨b, rfl, p, hb2.cells0 _ rfl, b, rfl, seed, hb2.cell rfl, (cols_spec p seed id h1).mono ?_⟩
  rintro v h2 ⟨c, rfl, R2⟩
  rw [hp, hid, Bool.and_self, if_pos rfl, hn] at R2
  rw [hid, if_pos rfl]
  have H2 := H1.comp R2
  obtain ⟨cs, hcs⟩ : ∃ cs, cs = colsI n seed id := ⟨_, rfl⟩
  have hin : ∀ x ∈ cs, 0 ≤ x ∧ x < (n : Int) := fun x hx => colsI_mem (by omega) (by omega) (by rw [← hcs]; exact hx)
  have hcl2 : cs.length ≤ n := by rw [hcs]; exact colsI_len (by omega) (by omega) _ _
  rw [← hcs] at H2 ⊢
  have hcl := (H2.seq 1 rfl (fun _ => rfl)).len
  refine ⟨c, rfl, trivial, ?_⟩
  refine loop_inv (fun i : Nat => (i : Int)) (fun i h' => i ≤ cs.length ∧ Sp h h' [OwnA T_uint8 o 1 u8v (symB w M (cs.take i)), OwnA T_int c 1 intv cs]) (fun i => cs.length - i) 0 rfl ⟨by omega, H2⟩ ?_
  rintro i h3 ⟨hi, H3⟩
  refine br_dec (fun e => ?_) (fun e => ?_)
  · have hi' : i < cs.length := by omega
    have hx := hin _ (List.getElem_mem hi')
    refine (H3.seq 1 rfl (fun _ => rfl)).get1 i rfl hi' _ rfl ?_
    have hb3 := hb1.pres H3.pres hb1.lt
    refine ⟨b, rfl, m, hb3.cell rfl, ?_⟩
    obtain ⟨rsm, hq⟩ := hm
    refine (hq.pres H3.pres).get cs[i].toNat (by omega) (by omega) fun r hr hrs => ?_
    have hrb := hq.row _ r _ hrs (List.getElem?_eq_getElem (show cs[i].toNat < M.length by omega))
    obtain ⟨row, hrow⟩ : ∃ row, row = M[cs[i].toNat]'(by omega) := ⟨_, rfl⟩
    have hrl : row.length = w := by rw [hrow]; exact hM _ (List.getElem_mem _)
    rw [← hrow] at hr hrb
    obtain ⟨S, hS⟩ : ∃ S, S = symB w M (cs.take i) := ⟨_, rfl⟩
    have hSl : S.length = w := by rw [hS]; exact sym_take_len hM hl hin i hi
    have hrr := hr.len
    have e2 : symB w M (cs.take (i + 1)) = addB 1 row S := by rw [take_snoc _ _ hi', sym_snoc, hS, hrow, row_lt (by omega)]
    rw [← hS] at H3
    refine loop_inv (fun k : Nat => (k : Int)) (fun k h' => k ≤ w ∧ Sp h h' [OwnA T_uint8 o 1 u8v (List.zipWith (fun x y => y ^^^ Gf.mul 1 x) (row.take k) (S.take k) ++ S.drop k), OwnA T_int c 1 intv cs]) (fun k => w - k) 0 rfl ⟨by omega, by simpa using H3⟩ ?_
    rintro k h4 ⟨hk, H4⟩
    have hr4 := hrb.pres H4.pres
    have hzl : (List.zipWith (fun x y => y ^^^ Gf.mul 1 x) (row.take k) (S.take k) ++ S.drop k).length = w := by simp; omega
    refine br_dec (fun e3 => ?_) (fun e3 => ?_)
    · have hk' : k < w := by omega
      have hval : (List.zipWith (fun x y => y ^^^ Gf.mul 1 x) (row.take k) (S.take k) ++ S.drop k)[k]'(by omega) = S[k]'(by omega) := by
        have := zip_at (a := row) (t := S) (by omega) (show k < S.length by omega)
        rw [List.getElem?_eq_getElem (by omega)] at this
        exact Option.some.inj this
      refine hr4.get1 k rfl (by omega) _ rfl ?_
      refine (H4.seq 0 rfl (fun _ => rfl)).get1 k rfl (by omega) _ rfl ?_
      rw [hval, xor_u8]
      refine H4.set C_ok 0 rfl (fun _ => rfl) rfl k rfl (by omega) _ rfl rfl rfl fun h5 H5 => ?_
      refine ⟨k + 1, by rw [wrap_small _ (by omega) (by omega)]; rfl, ⟨by omega, ?_⟩, by omega⟩
      rw [← add_one_zip (by omega) (show k < S.length by omega)]; exact H5
    · have hkw : k = w := by omega
      subst hkw
      rw [List.take_of_length_le (by omega), List.take_of_length_le (by omega), List.drop_of_length_le (by omega), List.append_nil] at H4
      refine ⟨i + 1, by rw [wrap_small _ (by omega) (by omega)]; rfl, ⟨by omega, ?_⟩, by omega⟩
      rw [e2]; exact H4
  · rw [List.take_of_length_le (by omega)] at H3
    exact ⟨o, rfl, H3.take 0 (fun i A hi => by cases i with | zero => exact hi | succ i => simp at hi)⟩
def dataB (l : Row) (n : Nat) : Row := l.take n ++ (List.replicate n 0).drop l.length
theorem dataB_len (l : Row) (n : Nat) : (dataB l n).length = n := by simp [dataB]; omega
theorem data_spec (l : Sl) (ls : Row) (n : Nat) (h : Heap) (hl : Rd h l 1 u8v ls) (hn : n ≤ 2 ^ 20) : Meets Tryz.prog wellspringlaw11_Data_id #[.slice l.ptr l.len l.cap, .int .i64 n] h fun v h' => ∃ r : Sl, v = .slice r.ptr r.len r.cap ∧ Sp h h' [OwnA T_uint8 r 1 u8v (dataB ls n)] := by
  refine wellspringlaw11_Data_run l n ?_
  unfold wellspringlaw11_Data_m
  refine (Sp.refl h).make C_ok u8v eU8 (by decide) 0 rfl rfl n n rfl rfl (Nat.le_refl _) (by omega) fun o h1 hol hoc H1 => ?_
  refine H1.copyTo C_ok 0 rfl eU8 (fun _ => rfl) (Seq.up hl H1.pres) one_u8 fun _ h2 H2 => ?_
  rw [List.length_replicate] at H2
  exact ⟨o, rfl, H2⟩
end Go.Proofs.YtkcplnfomahleaaGreatDoor
namespace Go.Proofs.YtkcplnfomahleaaGreatDoor
open Go Go.Vc Go.Proofs Wl
set_option maxRecDepth 100000
theorem _root_.Wl.BlkOk.newE {p : Pm} {seed : Int} {d : Row} {K H w n : Nat} (B : BlkOk p seed d K H w n) : newE p seed d.length = 0 := by
  rw [Go.Proofs.YtkcplnfomahleaaGreatDoor.newE, B.may, B.full, B.len, B.k, B.s, decide_eq_true (by rw [Int.natCast_mul])]; rfl
theorem _root_.Wl.BlkOk.congr {p : Pm} {seed : Int} {d d' : Row} {K H w n : Nat} (B : BlkOk p seed d K H w n) (h : d'.length = K * w) : BlkOk p seed d' K H w n :=
  ⟨B.may, B.full, B.k, B.h, B.s, B.n, B.k1, B.k2, B.h1, B.h2, B.w1, B.w2, h⟩
theorem _root_.Wl.BlkOk.symbol {p : Pm} {seed : Int} {d : Row} {K H w n : Nat} (B : BlkOk p seed d K H w n) (b : Addr) (id : Int) (h : Heap) (hb : BlkA h b p seed (midP p seed d)) :
    Meets Tryz.prog encode_Block_Symbol_id #[.pointer (some b), .int .i64 id] h fun v h' => ∃ r : Sl, v = .slice r.ptr r.len r.cap ∧ Sp h h' [OwnA T_uint8 r 1 u8v (if mayID id then symB w (midP p seed d) (colsI n seed id) else [])] :=
  symbol_spec b p seed id _ n w h hb B.may B.s B.colsN B.midLen.2 B.midLen.1
end Go.Proofs.YtkcplnfomahleaaGreatDoor
namespace Go.Proofs.YtkcplnfomahleaaGreatDoor
open Go Go.Vc Go.Proofs Wl
set_option maxRecDepth 100000
def PoolA (pool : List (Sl × Row)) : HP := ⟨fun h q => ∀ x ∈ pool, Seq h q x.1 1 u8v x.2, fun a hp x hx => (a x hx).pres hp, fun a hq x hx => (a x hx).mono hq⟩
theorem _root_.Go.Vc.SpB.pool0 {B : Blocks} {h0 h : Heap} {As : List HP} (H : SpB B h0 h As) : SpB B h0 h (As ++ [PoolA []]) :=
  H.comp (.one (Pres.refl _ _) fun x hx => by cases hx)
theorem _root_.Go.Vc.SpB.pool {B : Blocks} {h0 h : Heap} {As : List HP} (H : SpB B h0 h As) (i j : Nat) (hij : i ≠ j) {pool : List (Sl × Row)} {r : Sl} {l : Row} (hi : As[i]? = some (PoolA pool)) (hj : As[j]? = some (SeqA r 1 u8v l)) : SpB B h0 h ((As.set i (PoolA ((r, l) :: pool))).set j emp) :=
  H.merge i j hij hi hj fun q1 q2 _ hA hB x hx => by
    rcases List.mem_cons.1 hx with rfl | hx
    · exact Seq.mono hB fun _ h => .inr h
    · exact (hA x hx).mono fun _ h => .inl h
theorem _root_.Go.Vc.SpB.poolRd {B : Blocks} {h0 h : Heap} {As : List HP} (H : SpB B h0 h As) (i : Nat) {pool : List (Sl × Row)} (hi : As[i]? = some (PoolA pool)) {r : Sl} {l : Row} (hm : (r, l) ∈ pool) : Rd h r 1 u8v l := (H.at i hi) _ hm
theorem _root_.Go.Vc.SpB.poolRows {B : Blocks} {h0 h : Heap} {As : List HP} (H : SpB B h0 h As) (i j : Nat) (hij : i ≠ j) {pool : List (Sl × Row)} {s : Sl} {rs : List Sl} {ll : Mat} (hi : As[i]? = some (OwnA T_sl_uint8 s 1 slv rs)) (hj : As[j]? = some (PoolA pool))
    (hl : rs.length = ll.length) (hm : ∀ (k : Nat) r l, rs[k]? = some r → ll[k]? = some l → (r, l) ∈ pool) : SpB B h0 h ((As.set i (RowsA T_sl_uint8 s 1 u8v ll)).set j emp) :=
  H.merge i j hij hi hj fun q1 q2 hd hA hB => ⟨rs, q2, hA.1, fun b hb => ⟨.inl (hA.2 b hb), hd b (hA.2 b hb)⟩, fun _ h => .inr h, hl, fun k r l h1 h2 => hB _ (hm k r l h1 h2)⟩
def inPool (pool : List (Sl × Row)) (g : Row → Row) (rs : List Sl) (m : Mat) : Prop := rs.length = m.length ∧ ∀ (i : Nat) r l, rs[i]? = some r → m[i]? = some l → (r, g l) ∈ pool
theorem inPool.get {pool : List (Sl × Row)} {g : Row → Row} {rs : List Sl} {m : Mat} (h : inPool pool g rs m) {i : Nat} (hi : i < m.length) : (rs[i]'(by rw [h.1]; exact hi), g m[i]) ∈ pool :=
  h.2 i _ _ (List.getElem?_eq_getElem _) (List.getElem?_eq_getElem _)
theorem inPool.mono {pool pool' : List (Sl × Row)} {g : Row → Row} {rs : List Sl} {m : Mat} (h : inPool pool g rs m) (hp : ∀ x ∈ pool, x ∈ pool') : inPool pool' g rs m := ⟨h.1, fun i r l h1 h2 => hp _ (h.2 i r l h1 h2)⟩
theorem inPool.set {pool : List (Sl × Row)} {g : Row → Row} {rs : List Sl} {m : Mat} (h : inPool pool g rs m) (i : Nat) {r : Sl} {l : Row} (hr : (r, g l) ∈ pool) : inPool pool g (rs.set i r) (m.set i l) := by
  refine ⟨by simp [h.1], fun k r' l' h1 h2 => ?_⟩
  rw [List.getElem?_set] at h1 h2
  by_cases hik : i = k
  · subst hik
    rw [if_pos rfl] at h1 h2
    split at h1
    · rename_i hlt
      rw [if_pos (by rw [← h.1]; exact hlt)] at h2
      cases h1; cases h2; exact hr
    · cases h1
  · rw [if_neg hik] at h1 h2
    exact h.2 k r' l' h1 h2
theorem inPool.snoc {pool : List (Sl × Row)} {g : Row → Row} {rs : List Sl} {m : Mat} (h : inPool pool g rs m) {r : Sl} {l : Row} (hr : (r, g l) ∈ pool) : inPool pool g (rs ++ [r]) (m ++ [l]) := by
  refine ⟨by simp [h.1], fun k r' l' h1 h2 => ?_⟩
  by_cases hk : k < rs.length
  · rw [List.getElem?_append_left hk] at h1
    rw [List.getElem?_append_left (by rw [← h.1]; exact hk)] at h2
    exact h.2 k r' l' h1 h2
  · have : k = rs.length := by
      have := (List.getElem?_eq_some_iff.1 h1).1
      simp at this; omega
    subst this
    simp at h1
    rw [h.1] at h2
    simp at h2
    subst h1; subst h2; exact hr
theorem inPool.nil (pool : List (Sl × Row)) (g : Row → Row) : inPool pool g [] [] := ⟨rfl, fun i r l h => by simp at h⟩
theorem _root_.Go.Vc.SpB.poolSeq2 {B : Blocks} {h0 h : Heap} {As : List HP} (H : SpB B h0 h As) (i j : Nat) {pool : List (Sl × Row)} {e : Nat} {s : Sl} {rs : List Sl} {ll : Mat} (hi : As[i]? = some (OwnA e s 1 slv rs)) (hj : As[j]? = some (PoolA pool))
    (hm : inPool pool id rs ll) : Seq2 h (fun b => b < h.size) s 1 u8v ll rs := ⟨H.seq i hi fun _ => rfl, hm.1, fun k r l h1 h2 => H.poolRd j hj (hm.2 k r l h1 h2)⟩
end Go.Proofs.YtkcplnfomahleaaGreatDoor
