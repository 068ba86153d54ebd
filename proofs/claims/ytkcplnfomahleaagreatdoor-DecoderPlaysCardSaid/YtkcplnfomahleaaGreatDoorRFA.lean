/- Part of the proofs that wellspringlaw14's laws answer true whatever the input reads, and leave it as it was; no condition. -/
import Derived.Test.YtkcplnfomahleaaGreatDoorKA
import Derived.Test.YtkcplnfomahleaaGreatDoorPlB
set_option linter.unusedVariables false
set_option linter.unusedSimpArgs false
namespace Go.Proofs.YtkcplnfomahleaaGreatDoor
open Go Go.Vc Go.Proofs Wl
set_option maxRecDepth 100000
theorem upto_snoc (k : Nat) : upto (k + 1) = upto k ++ [(k : Int)] := by simp [upto, List.range_succ]
theorem bv16 (n : Nat) (hn : n < 65536) : (BitVec.ofInt (IntKind.bits .u16) (n : Int)).toNat = n := by
  simp [IntKind.bits]; omega
theorem xor_u16 (p q : Nat) (hp : p < 65536) (hq : q < 65536) : IntKind.wrap .u16 ((BitVec.ofInt (IntKind.bits .u16) (p : Int) ^^^ BitVec.ofInt (IntKind.bits .u16) (q : Int)).toNat : Nat) = ((p ^^^ q : Nat) : Int) := by
  rw [BitVec.toNat_xor, bv16 p hp, bv16 q hq]
  have : p ^^^ q < 2 ^ 16 := Nat.xor_lt_two_pow hp hq
  show ((p ^^^ q : Nat) : Int) % 65536 = _
  omega
theorem refMul_spec (a b : UInt8) (h : Heap) : Meets Tryz.prog wellspringref01_Mul_id #[.int .u8 a.toNat, .int .u8 b.toNat] h fun v h' => v = .int .u8 (Gf.mul a b).toNat ∧ h' = h := by
  have t1 : ∀ b : Nat, b < 256 → ∀ i : Nat, i < 8 → (IntKind.wrap .u8 ((BitVec.ofInt (IntKind.bits .u8) (Int.fdiv (b : Int) (2 ^ min (i : Int).toNat (IntKind.bits .u8))) &&& (BitVec.ofInt (IntKind.bits .u8) (1 : Int))).toNat : Nat)) = ((b / 2 ^ i % 2 : Nat) : Int) := by decide +kernel
  have t2 : ∀ a : Nat, a < 256 → ∀ i : Nat, i < 8 → IntKind.wrap .u16 ((IntKind.wrap .u16 (a : Int)) * 2 ^ min (i : Int).toNat (IntKind.bits .u16)) = ((a * 2 ^ i : Nat) : Int) ∧ a * 2 ^ i < 65536 := by decide +kernel
  have t3 : ∀ (p i : Nat), p < 65536 → i < 16 → IntKind.wrap .u16 ((BitVec.ofInt (IntKind.bits .u16) (Int.fdiv (p : Int) (2 ^ min (i : Int).toNat (IntKind.bits .u16))) &&& (BitVec.ofInt (IntKind.bits .u16) (1 : Int))).toNat : Nat) = ((p / 2 ^ i % 2 : Nat) : Int) := by
    intro p i hp hi
    have e1 : min (i : Int).toNat (IntKind.bits .u16) = i := by simp [IntKind.bits]; omega
    rw [e1]
    have e2 : Int.fdiv (p : Int) (2 ^ i) = ((p / 2 ^ i : Nat) : Int) := by
      rw [Int.fdiv_eq_ediv_of_nonneg _ (by exact Int.pow_nonneg (by decide))]
      simp
    rw [e2]
    have h1 : p / 2 ^ i < 65536 := Nat.lt_of_le_of_lt (Nat.div_le_self _ _) hp
    have e3 : (BitVec.ofInt (IntKind.bits .u16) ((p / 2 ^ i : Nat) : Int)).toNat = p / 2 ^ i := bv16 _ h1
    have e4 : (BitVec.ofInt (IntKind.bits .u16) (1 : Int)).toNat = 1 := by decide
    rw [BitVec.toNat_and, e3, e4, Nat.and_one_is_mod]
    show ((p / 2 ^ i % 2 : Nat) : Int) % 65536 = _
    omega
  have t4 : ∀ i : Nat, i < 8 → IntKind.wrap .u16 ((283 : Int) * 2 ^ min (IntKind.wrap .i64 (((15 - i : Nat) : Int) - (8 : Int))).toNat (IntKind.bits .u16)) = ((283 * 2 ^ (7 - i) : Nat) : Int) ∧ 283 * 2 ^ (7 - i) < 65536 ∧ 0 ≤ IntKind.wrap .i64 (((15 - i : Nat) : Int) - (8 : Int)) := by decide +kernel
  have ha := UInt8.toNat_lt a
  have hb := UInt8.toNat_lt b
  refine wellspringref01_Mul_run _ _ ?_
  unfold wellspringref01_Mul_m
  refine loop_inv (fun i : Nat => ((Gf.pl a.toNat b.toNat i : Int), (i : Int))) (fun i h' => h' = h ∧ i ≤ 8) (fun i => 8 - i) 0 rfl ⟨rfl, by omega⟩ ?_
  rintro i h1 ⟨rfl, hi⟩
  dsimp only
  refine br_dec (fun e => ?_) (fun e => ?_)
  · have hi' : i < 8 := by omega
    refine ⟨by omega, ?_⟩
    rw [t1 _ hb i hi', wrap_small _ (by omega) (by omega)]
    refine br_eq (fun e1 => ?_) (fun e1 => ?_)
    · refine ⟨by omega, i + 1, ?_, ⟨rfl, by omega⟩, by omega⟩
      have := t2 _ ha i hi'
      rw [this.1, xor_u16 _ _ (Gf.pl_lt _ _ ha i hi) this.2, Gf.pl, if_pos (by omega)]; rfl
    · refine ⟨i + 1, ?_, ⟨rfl, by omega⟩, by omega⟩
      rw [Gf.pl, if_neg (by omega)]; rfl
  · have hi' : i = 8 := by omega
    subst hi'
    have hp := Gf.pl_lt _ b.toNat ha 8 (Nat.le_refl _)
    generalize hP : Gf.pl a.toNat b.toNat 8 = P at hp ⊢
    refine loop_inv (fun i : Nat => ((Gf.rd P i : Int), (15 : Int) - (i : Int))) (fun i h' => h' = h1 ∧ i ≤ 8) (fun i => 8 - i) 0 rfl ⟨rfl, by omega⟩ ?_
    rintro i h2 ⟨rfl, hi⟩
    have hr := Gf.rd_lt P hp i hi
    dsimp only
    refine br_dec (fun e => ?_) (fun e => ?_)
    · have hi' : i < 8 := by omega
      have hx : (15 : Int) - (i : Int) = ((15 - i : Nat) : Int) := by omega
      rw [hx]
      refine ⟨by omega, ?_⟩
      rw [t3 _ (15 - i) hr (by omega), wrap_small (((15 - i : Nat) : Int) - 1) (by omega) (by omega)]
      have h4 := t4 i hi'
      refine br_eq (fun e1 => ?_) (fun e1 => ?_)
      · refine ⟨h4.2.2, i + 1, ?_, ⟨rfl, by omega⟩, by omega⟩
        rw [h4.1, xor_u16 _ _ hr h4.2.1, Gf.rd, if_pos (by omega)]
        exact Prod.ext rfl (by dsimp only; omega)
      · refine ⟨i + 1, ?_, ⟨rfl, by omega⟩, by omega⟩
        rw [Gf.rd, if_neg (by omega)]
        exact Prod.ext rfl (by dsimp only; omega)
    · have hi' : i = 8 := by omega
      subst hi'
      refine ⟨?_, rfl⟩
      have := Gf.polyMul_eq a b
      rw [Gf.polyMul, hP] at this
      rw [← this]
      show Value.int .u8 (((Gf.rd P 8 : Nat) : Int) % 256) = _
      rfl
theorem refExp_spec (n : Int) (h : Heap) : Meets Tryz.prog wellspringref01_Exp_id #[.int .i64 n] h fun v h' => v = .int .u8 (Gf.pw (n % 255).toNat).toNat ∧ h' = h := by
  refine wellspringref01_Exp_run n ?_
  unfold wellspringref01_Exp_m
  have h1 := Int.tmod_lt_of_pos n (show (0 : Int) < 255 by decide)
  have h2 : -255 < n.tmod 255 := Int.lt_tmod_of_pos n (by decide)
  have he := tmod_fix n 255 (by decide)
  have hp0 := Int.emod_nonneg n (show (255 : Int) ≠ 0 by decide)
  have hp1 := Int.emod_lt_of_pos n (show (0 : Int) < 255 by decide)
  refine ⟨by decide, join_cut (fun s h' => s = n % 255 ∧ h' = h) ?_ ?_⟩
  · refine br_dec (fun hlt => ?_) (fun hge => ?_)
    · rw [if_pos hlt] at he
      exact ⟨by rw [wrap_small _ (by omega) (by omega), he], rfl⟩
    · rw [if_neg hge] at he
      exact ⟨he.symm, rfl⟩
  · rintro s h' ⟨rfl, rfl⟩
    obtain ⟨N, hN⟩ : ∃ N : Nat, n % 255 = N := ⟨(n % 255).toNat, by omega⟩
    rw [hN, Int.toNat_natCast]
    refine loop_inv (fun i : Nat => (((Gf.pw i).toNat : Int), (i : Int))) (fun i h2 => h2 = h' ∧ i ≤ N) (fun i => N - i) 0 rfl ⟨rfl, by omega⟩ ?_
    rintro i h2 ⟨rfl, hi⟩
    dsimp only
    refine br_dec (fun e => ?_) (fun e => ?_)
    · have m3 := refMul_spec (Gf.pw i) 3 h2
      refine m3.mono ?_
      rintro v h3 ⟨rfl, rfl⟩
      refine ⟨_, rfl, i + 1, ?_, ⟨rfl, by omega⟩, by omega⟩
      rw [wrap_small _ (by omega) (by omega), Gf.mul_three]; rfl
    · have : i = N := by omega
      subst this
      exact ⟨rfl, rfl⟩
theorem refInv_spec (a : UInt8) (h : Heap) : Meets Tryz.prog wellspringref01_Inv_id #[.int .u8 a.toNat] h fun v h' => v = .int .u8 (Gf.inv a).toNat ∧ h' = h := by
  refine wellspringref01_Inv_run _ ?_
  unfold wellspringref01_Inv_m
  refine loop_inv (fun k : Nat => (k : Int)) (fun k h' => h' = h ∧ 1 ≤ k ∧ k ≤ 256 ∧ ∀ j, j < k → Gf.mul a (UInt8.ofNat j) ≠ 1) (fun k => 256 - k) 1 rfl ⟨rfl, by omega, by omega, fun j hj => ?_⟩ ?_
  · have : j = 0 := by omega
    subst this
    show Gf.mul a 0 ≠ 1
    rw [Gf.mul_zero]; decide
  · rintro k h' ⟨rfl, hk1, hk2, hj⟩
    refine br_dec (fun e => ?_) (fun e => ?_)
    · have hk : k < 256 := by omega
      have hw : IntKind.wrap .u8 (k : Int) = ((UInt8.ofNat k).toNat : Int) := by
        show (k : Int) % 256 = _
        simp [Nat.mod_eq_of_lt hk]; omega
      rw [hw]
      refine (refMul_spec a (UInt8.ofNat k) h').mono ?_
      rintro v h2 ⟨rfl, rfl⟩
      refine ⟨_, rfl, ?_⟩
      refine br_eq (fun e1 => ?_) (fun e1 => ?_)
      · have h1 : Gf.mul a (UInt8.ofNat k) = 1 := UInt8.toNat_inj.1 (show (Gf.mul a (UInt8.ofNat k)).toNat = 1 from Int.ofNat_inj.1 e1)
        exact ⟨by rw [← Gf.inv_unique h1], rfl⟩
      · refine ⟨k + 1, by rw [wrap_small _ (by omega) (by omega)]; rfl, ⟨rfl, by omega, by omega, fun j hj' => ?_⟩, by omega⟩
        rcases Nat.lt_succ_iff_lt_or_eq.1 hj' with h1 | rfl
        · exact hj j h1
        · intro h1; apply e1; rw [h1]; rfl
    · have : k = 256 := by omega
      subst this
      have ha : a = 0 := by
        refine Classical.byContradiction fun ha => ?_
        have := hj (Gf.inv a).toNat (UInt8.toNat_lt _)
        rw [UInt8.ofNat_toNat] at this
        exact this (Gf.mul_inv ha)
      subst ha
      exact ⟨rfl, rfl⟩
theorem refAxpy_spec (c : UInt8) (a b : Sl) (la lb : Row) (h : Heap) (ha : Rd h a 1 u8v la) (hb : Rd h b 1 u8v lb) (hl : la.length = lb.length) (hs : lb.length ≤ 2 ^ 30) :
    Meets Tryz.prog wellspringref01_Axpy_id #[.int .u8 c.toNat, .slice a.ptr a.len a.cap, .slice b.ptr b.len b.cap] h fun v h' => ∃ r : Sl, v = .slice r.ptr r.len r.cap ∧ Sp h h' [OwnA T_uint8 r 1 u8v (addB c la lb)] := by
  refine wellspringref01_Axpy_run _ a b ?_
  unfold wellspringref01_Axpy_m
  have hal := ha.len; have hbl := hb.len
  refine (Sp.refl h).make C_ok u8v eU8 (by decide) 0 rfl rfl lb.length lb.length (by omega) (by omega) (Nat.le_refl _) (by omega) fun s h1 hsl hc H1 => ?_
  refine loop_inv (fun k : Nat => (k : Int)) (fun k h' => k ≤ lb.length ∧ Sp h h' [OwnA T_uint8 s 1 u8v ((addB c la lb).take k ++ List.replicate (lb.length - k) 0)]) (fun k => lb.length - k) 0 rfl ⟨by omega, by simpa using H1⟩ ?_
  rintro k h2 ⟨hk, H2⟩
  have hal2 := add_len (c := c) hl
  refine br_dec (fun e => ?_) (fun e => ?_)
  · have hk' : k < lb.length := by omega
    refine (Seq.up hb H2.pres).get1A k rfl hk' _ rfl fun a3 h3 => ?_
    refine (Seq.up ha H2.pres).get1 k rfl (by omega) _ rfl ?_
    refine (refMul_spec c _ h2).mono ?_
    rintro v h4 ⟨rfl, rfl⟩
    refine ⟨_, rfl, ⟨h3, trivial⟩, ?_⟩
    dsimp only
    rw [xor_u8]
    refine H2.set C_ok 0 rfl (fun _ => rfl) rfl k rfl (by simp; omega) _ rfl rfl rfl fun h5 H5 => ⟨trivial, ?_⟩
    refine ⟨k + 1, by rw [wrap_small _ (by omega) (by omega)]; rfl, ⟨by omega, ?_⟩, by omega⟩
    have hlk : ((addB c la lb).take k).length = k := by rw [List.length_take]; omega
    have e2 : ((addB c la lb).take k ++ List.replicate (lb.length - k) 0).set k (lb[k] ^^^ Gf.mul c (la[k]'(by omega))) = (addB c la lb).take (k + 1) ++ List.replicate (lb.length - (k + 1)) 0 := by
      rw [List.set_append_right _ _ (by omega), hlk, Nat.sub_self, show lb.length - k = lb.length - (k + 1) + 1 by omega, List.replicate_succ, List.set_cons_zero, take_snoc _ _ (by omega), List.append_assoc]
      simp [addB]
    rw [← e2]; exact H5
  · have : k = lb.length := by omega
    subst this
    refine ⟨s, rfl, ?_⟩
    rw [List.take_of_length_le (by omega), Nat.sub_self, List.replicate_zero, List.append_nil] at H2
    exact H2
theorem refScale_spec (c : UInt8) (a : Sl) (la : Row) (h : Heap) (ha : Rd h a 1 u8v la) (hs : la.length ≤ 2 ^ 30) :
    Meets Tryz.prog wellspringref01_Scale_id #[.int .u8 c.toNat, .slice a.ptr a.len a.cap] h fun v h' => ∃ r : Sl, v = .slice r.ptr r.len r.cap ∧ Sp h h' [OwnA T_uint8 r 1 u8v (scaleB c la)] := by
  refine wellspringref01_Scale_run _ a ?_
  unfold wellspringref01_Scale_m
  have hal := ha.len
  refine (Sp.refl h).make C_ok u8v eU8 (by decide) 0 rfl rfl la.length la.length (by omega) (by omega) (Nat.le_refl _) (by omega) fun s h1 hsl hc H1 => ?_
  refine (refAxpy_spec c a s la _ h1 (Seq.up ha H1.pres) (H1.seq 0 rfl (fun _ => rfl)) (by simp) (by simp; omega)).mono ?_
  rintro v h2 ⟨r, rfl, R2⟩
  refine ⟨r, rfl, r, rfl, ?_⟩
  have e : addB c la (List.replicate la.length 0) = scaleB c la := row_ext (n := la.length) (by rw [add_len (by simp)]; simp) (scale_len _ _) fun j _ => by
    rw [col_add (by simp), col_scale, show List.replicate la.length (0 : UInt8) = zeroB la.length from rfl, col_zero, UInt8.zero_xor]
  rw [← e]
  exact (H1.comp R2).take 1 (fun i A hi => by cases i with | zero => exact hi | succ i => simp at hi)
end Go.Proofs.YtkcplnfomahleaaGreatDoor
namespace Go.Proofs.YtkcplnfomahleaaGreatDoor
open Go Go.Vc Go.Proofs Wl
set_option maxRecDepth 100000
theorem refMay_spec (p : Pm) (h : Heap) : Meets Tryz.prog wellspringref01_May_id #[pmv p] h fun v h' => v = .bool (mayP p) ∧ Sp h h' [] := by
  refine wellspringref01_May_run p ?_
  unfold wellspringref01_May_m
  refine (Sp.refl h).boxed fun a h1 H1 => ?_
  have hb := H1.box 0 rfl
  have hz : Sp h h1 [] := .zip H1.pres
  have c0 : cellOf h1 a = some (.int .i64 p.1) := hb.cell0 rfl
  have c1 : cellOf h1 (a.add 1) = some (.int .i64 p.2.1) := hb.cell rfl
  have c2 : cellOf h1 (a.add 2) = some (.int .i64 p.2.2) := hb.cell rfl
  unfold mayP
  refine ⟨_, c0, br_dec (fun e1 => ?_) (fun e1 => ⟨by rw [decide_eq_false e1]; rfl, hz⟩)⟩
  rw [decide_eq_true e1]
  refine ⟨_, c0, br_dec (fun e1 => ?_) (fun e1 => ⟨by rw [decide_eq_false e1]; rfl, hz⟩)⟩
  rw [decide_eq_true e1]
  refine ⟨_, c1, br_dec (fun e1 => ?_) (fun e1 => ⟨by rw [decide_eq_false e1]; rfl, hz⟩)⟩
  rw [decide_eq_true e1]
  refine ⟨_, c1, br_dec (fun e1 => ?_) (fun e1 => ⟨by rw [decide_eq_false e1]; rfl, hz⟩)⟩
  rw [decide_eq_true e1]
  refine ⟨_, c2, br_dec (fun e1 => ?_) (fun e1 => ⟨by rw [decide_eq_false e1]; rfl, hz⟩)⟩
  rw [decide_eq_true e1]
  exact ⟨_, c2, rfl, hz⟩
theorem refCols_spec (p : Pm) (h : Heap) : Meets Tryz.prog wellspringref01_Cols_id #[pmv p] h fun v h' => v = .int .i64 (colsP p) ∧ Sp h h' [] := by
  refine wellspringref01_Cols_run p ?_
  unfold wellspringref01_Cols_m
  refine (Sp.refl h).boxed fun a h1 H1 => ?_
  refine ⟨p, (H1.box 0 rfl).cells0 _ rfl, ?_⟩
  refine (refMay_spec p h1).mono ?_
  rintro v h2 ⟨rfl, H2⟩
  have H12 := H1.comp H2
  have hb := H12.box 0 rfl
  refine ⟨_, rfl, br_not (fun e => ⟨by simp [colsP, e], .zip H12.pres⟩) (fun e => ?_)⟩
  refine ⟨_, hb.cell0 rfl, _, hb.cell rfl, ?_, .zip H12.pres⟩
  have := (mayP_iff p).1 e
  rw [wrap_small _ (by omega) (by omega), colsP, if_pos e]
theorem refMayID_spec (id : Int) (h : Heap) : Meets Tryz.prog wellspringref01_MayID_id #[.int .i64 id] h fun v h' => v = .bool (mayID id) ∧ h' = h := by
  refine wellspringref01_MayID_run id ?_
  unfold wellspringref01_MayID_m
  refine br_dec (fun e => ⟨?_, rfl⟩) (fun e => ⟨?_, rfl⟩)
  · rw [mayID, decide_eq_true (show 0 ≤ id from e)]; rfl
  · rw [mayID, decide_eq_false (show ¬ 0 ≤ id from e)]; rfl
theorem refNext_spec (a : Addr) (s : Int) (h : Heap) (hb : Box h a T_wellspringref01_Draw [.int .u64 s]) : Meets Tryz.prog wellspringref01_Draw_Next_id #[.pointer (some a)] h fun v h' => v = .int .u32 (told s) ∧ Box h' a T_wellspringref01_Draw [.int .u64 (nxt s)] ∧ Pres (· ≠ a.block) h h' := by
  refine wellspringref01_Draw_Next_run (some a) ?_
  unfold wellspringref01_Draw_Next_m
  refine ⟨a, rfl, s, hb.cell0 rfl, a, rfl, ?_⟩
  refine run_store0 C_ok hb rfl _ rfl rfl rfl (Nat.le_refl _) fun h1 hb1 hp1 _ => ?_
  exact ⟨a, rfl, _, hb1.cell0 rfl, by decide, rfl, hb1, hp1⟩
theorem refBelow_spec (a : Addr) (s n : Int) (h : Heap) (hb : Box h a T_wellspringref01_Draw [.int .u64 s]) (hn : 0 < n) (hn2 : n ≤ 2 ^ 62) : Meets Tryz.prog wellspringref01_Draw_Below_id #[.pointer (some a), .int .i64 n] h fun v h' => v = .int .i64 (belowI s n) ∧ Box h' a T_wellspringref01_Draw [.int .u64 (nxt s)] ∧ Pres (· ≠ a.block) h h' := by
  refine wellspringref01_Draw_Below_run (some a) n ?_
  unfold wellspringref01_Draw_Below_m
  refine br_dec (fun e => by omega) fun _ => ?_
  refine (refNext_spec a s h hb).mono ?_
  rintro v h1 ⟨rfl, hb1, hp1⟩
  exact ⟨_, rfl, by rw [wrap_u64]; omega, rfl, hb1, hp1⟩
theorem refDegree_spec {p : Blocks} (t : Sl) (lt : List Int) (x last : Int) (h : Heap) (ht : Seq h p t 1 intv lt) (hx : 0 ≤ x) (hlast : lt.getLast? = some last) (hxl : x < last) (hs : lt.length ≤ 2 ^ 40) :
    Meets Tryz.prog wellspringref01_Degree_id #[.slice t.ptr t.len t.cap, .int .i64 x] h fun v h' => v = .int .i64 (degI lt x) ∧ h' = h := by
  refine wellspringref01_Degree_run t x ?_
  unfold wellspringref01_Degree_m
  have hl := ht.len
  have hfi : (lt.findIdx fun y => decide (y > x)) < lt.length := List.findIdx_lt_length_of_exists ⟨last, List.mem_of_getLast? hlast, by simpa using hxl⟩
  refine loop_inv (fun k : Nat => (k : Int)) (fun k h' => h' = h ∧ k ≤ (lt.findIdx fun y => decide (y > x))) (fun k => lt.length - k) 0 rfl ⟨rfl, by omega⟩ ?_
  rintro k h' ⟨rfl, hk⟩
  refine join_in ?_
  refine br_dec (fun e => ?_) (fun e => by omega)
  refine br_dec (fun _ => ?_) (fun e => by omega)
  have hk' : k < lt.length := by omega
  refine ht.get1 k rfl hk' _ rfl ?_
  rw [wrap_small _ (by omega) (by omega)]
  refine br_dec (fun e2 => ?_) (fun e2 => ?_)
  · have : (lt.findIdx fun y => decide (y > x)) = k := Nat.le_antisymm (Nat.le_of_not_lt fun hlt => by have := List.not_of_lt_findIdx hlt; simp at this; omega) hk
    exact ⟨by rw [degI, this]; rfl, rfl⟩
  · refine ⟨k + 1, rfl, ⟨rfl, ?_⟩, by omega⟩
    refine Nat.lt_of_le_of_ne hk fun he => ?_
    have := List.findIdx_getElem (xs := lt) (p := fun y => decide (y > x)) (w := hfi)
    simp only [← he] at this
    simp at this; omega
theorem refDraw_spec (t : Sl) (n : Nat) (a : Addr) (s : Int) (h : Heap) (ht : Seq h (· ≠ a.block) t 1 intv (tableI n)) (hb : Box h a T_wellspringref01_Draw [.int .u64 s]) (hn1 : 1 ≤ n) (hn : n ≤ 20) :
    Meets Tryz.prog wellspringref01_DrawDegree_id #[.slice t.ptr t.len t.cap, .pointer (some a)] h fun v h' => v = .int .i64 (degOf s n) ∧ Box h' a T_wellspringref01_Draw [.int .u64 (nxt s)] ∧ Pres (· ≠ a.block) h h' := by
  refine wellspringref01_DrawDegree_run t (some a) ?_
  unfold wellspringref01_DrawDegree_m
  have hl := ht.len
  rw [tableI_len] at hl
  refine br_eq (fun e => by omega) fun _ => ?_
  rw [wrap_small _ (by omega) (by omega)]
  refine ht.get1 (n - 1) (by omega) (by rw [tableI_len]; omega) _ rfl ?_
  have e1 : (tableI n)[n - 1]'(by rw [tableI_len]; omega) = ((sumI n n : Nat) : Int) := by simp only [tableI, List.getElem_map, List.getElem_range]; rw [show n - 1 + 1 = n by omega]
  rw [e1]
  have hp := sumI_pos n hn hn1
  have hs2 := sumI_le n hn n hn
  refine (refBelow_spec a s _ h hb (by omega) (by omega)).mono ?_
  rintro v h1 ⟨rfl, hb1, hp1⟩
  have hbl := below_lt s (sumI n n) (by omega) (by omega)
  refine ⟨_, rfl, (refDegree_spec t (tableI n) _ _ h1 (ht.pres hp1) hbl.1 (table_last n hn1) hbl.2 (by rw [tableI_len]; omega)).mono ?_⟩
  rintro v h2 ⟨rfl, rfl⟩
  exact ⟨_, rfl, rfl, hb1, hp1⟩
def halved (r : Nat) : Nat → Nat
  | 0 => r
  | k + 1 => halved r k / 2
theorem refTable_spec (l : Nat) (h : Heap) (hl : l ≤ 20) (hl1 : 1 ≤ l) : Meets Tryz.prog wellspringref01_Table_id #[.int .i64 l] h fun v h' => ∃ s : Sl, v = .slice s.ptr s.len s.cap ∧ Sp h h' [OwnA T_int s 1 intv (tableI l)] := by
  have k1 : ∀ l : Nat, l ≤ 20 → ∀ r : Nat, r ≤ 5 → (∀ j, j < r → j * j < l) → r * r < l → r < 5 := by decide
  have k2 : ∀ l : Nat, l ≤ 20 → ∀ r : Nat, r ≤ 5 → (∀ j, j < r → j * j < l) → ¬ r * r < l → r = rootI l := by decide
  have b1 : ∀ r : Nat, r ≤ 5 → ∀ k : Nat, k ≤ 3 → 0 < halved r k → k < 3 ∧ IntKind.wrap .i64 (Int.tdiv (halved r k : Int) 2) = (halved r (k + 1) : Int) := by decide
  have b2 : ∀ r : Nat, r ≤ 5 → ∀ k : Nat, k ≤ 3 → halved r k = 0 → (∀ j, j < k → 0 < halved r j) → k = bitsI r := by decide
  have c1 : ∀ k : Nat, k ≤ 20 → 1 < k → IntKind.wrap .i64 ((k : Int) * IntKind.wrap .i64 ((k : Int) - 1)) = ((k * (k - 1) : Nat) : Int) ∧ k * (k - 1) ≠ 0 := by decide
  have c2 : ∀ l : Nat, l ≤ 20 → 1 ≤ l → 1 ≤ rootI l ∧ rootI l ≤ 5 := by decide
  have c3 : ∀ l : Nat, l ≤ 20 → 1 ≤ l → IntKind.wrap .i64 (Int.tdiv (l : Int) (rootI l)) = ((l / rootI l : Nat) : Int) := by decide
  have c4 : ∀ l : Nat, l ≤ 20 → 1 ≤ l → ∀ k : Nat, k ≤ 20 → 1 ≤ k → IntKind.wrap .i64 ((l : Int) * k) ≠ 0 := by decide +kernel
  have c5 : ∀ k : Nat, k ≤ 20 → 1 < k → IntKind.wrap .i64 (Int.tdiv (1048576 : Int) (IntKind.wrap .i64 ((k : Int) * IntKind.wrap .i64 ((k : Int) - 1)))) = ((1048576 / (k * (k - 1)) : Nat) : Int) := by decide +kernel
  have c6 : ∀ l : Nat, l ≤ 20 → 1 ≤ l → IntKind.wrap .i64 (Int.tdiv (1048576 : Int) (l : Int)) = ((1048576 / l : Nat) : Int) := by decide +kernel
  have c7 : ∀ l : Nat, l ≤ 20 → 1 ≤ l → ∀ k : Nat, k ≤ 20 → 1 ≤ k → IntKind.wrap .i64 (Int.tdiv (IntKind.wrap .i64 ((1048576 : Int) * rootI l)) (IntKind.wrap .i64 ((l : Int) * k))) = ((1048576 * rootI l / (l * k) : Nat) : Int) := by decide +kernel
  have c8 : ∀ l : Nat, l ≤ 20 → 1 ≤ l → IntKind.wrap .i64 (Int.tdiv (IntKind.wrap .i64 ((IntKind.wrap .i64 ((1048576 : Int) * rootI l)) * bitsI (rootI l))) (l : Int)) = ((1048576 * rootI l * bitsI (rootI l) / l : Nat) : Int) := by decide +kernel
  have c9 : ∀ l : Nat, l ≤ 20 → ∀ k : Nat, k ≤ 20 → 1048576 * rootI l / (l * k) ≤ 2 ^ 30 ∧ 1048576 * rootI l * bitsI (rootI l) / l ≤ 2 ^ 30 ∧ 1048576 / (k * (k - 1)) ≤ 2 ^ 30 ∧ 1048576 / l ≤ 2 ^ 30 := by decide +kernel
  refine wellspringref01_Table_run l ?_
  unfold wellspringref01_Table_m
  refine join_in (br_dec (fun e => by omega) fun _ => br_dec (fun e => by omega) fun _ => ?_)
  refine loop_inv (fun r : Nat => (r : Int)) (fun r h' => h' = h ∧ r ≤ 5 ∧ ∀ j, j < r → j * j < l) (fun r => 5 - r) 0 rfl ⟨rfl, by omega, fun j hj => by omega⟩ ?_
  rintro r h' ⟨rfl, hr, hj⟩
  have hsq : r * r ≤ 25 := Nat.mul_le_mul hr hr
  have e : IntKind.wrap .i64 ((r : Int) * (r : Int)) = ((r * r : Nat) : Int) := by rw [← Int.natCast_mul]; exact i64_of_nat _ (by omega)
  rw [e]
  refine br_dec (fun hlt => ?_) (fun hge => ?_)
  · have hlt' : r * r < l := by omega
    have h5 := k1 l hl r hr hj hlt'
    refine ⟨r + 1, by rw [wrap_small _ (by omega) (by omega)]; rfl, ⟨rfl, by omega, fun j hj' => ?_⟩, by omega⟩
    rcases Nat.lt_succ_iff_lt_or_eq.1 hj' with hj' | rfl
    · exact hj j hj'
    · exact hlt'
  · have hrr := k2 l hl r hr hj (by omega)
    have hr2 := c2 l hl hl1
    rw [hrr]
    refine ⟨by omega, ?_⟩
    refine loop_inv (fun k : Nat => ((k : Int), (halved (rootI l) k : Int))) (fun k h2 => h2 = h' ∧ k ≤ 3 ∧ ∀ j, j < k → 0 < halved (rootI l) j) (fun k => 3 - k) 0 rfl ⟨rfl, by omega, fun j hj => by omega⟩ ?_
    rintro k h2 ⟨rfl, hk, hkj⟩
    dsimp only
    refine br_dec (fun e1 => ?_) (fun e1 => ?_)
    · have hb := b1 _ hr2.2 k hk (by omega)
      refine ⟨by decide, k + 1, ?_, ⟨rfl, by omega, fun j hj' => ?_⟩, by omega⟩
      · rw [hb.2, wrap_small _ (by omega) (by omega)]; rfl
      · rcases Nat.lt_succ_iff_lt_or_eq.1 hj' with hj' | rfl
        · exact hkj j hj'
        · omega
    · have hbk := b2 _ hr2.2 k hk (by omega) hkj
      subst hbk
      refine loop_inv (fun t : Sl × Nat => (t.1, ((sumI l t.2 : Nat) : Int), ((t.2 + 1 : Nat) : Int))) (fun t h' => t.2 ≤ l ∧ Sp h2 h' [OwnA T_int t.1 1 intv ((tableI l).take t.2)]) (fun t => l - t.2) (⟨none, 0, 0⟩, 0) rfl ⟨by simp, SpB.nil (Sp.refl h2) T_int 1 intv⟩ ?_
      rintro ⟨s, k⟩ h3 ⟨hk, H3⟩
      dsimp only at *
      refine br_dec (fun e => ?_) (fun e => ?_)
      · have hk1 : k + 1 ≤ 20 := by omega
        have hw := c9 l hl (k + 1) hk1
        have b3 := sumI_le l hl k (by omega)
        have b4 := weightI_le l hl (k + 1) hk1
        refine ⟨by omega, join_cut (fun x h' => x = (((if k + 1 > 1 then 1048576 / ((k + 1) * (k + 1 - 1)) else 1048576 / l) : Nat) : Int) ∧ h' = h3) ?_ ?_⟩
        · refine br_dec (fun e1 => ?_) (fun e1 => ?_)
          · have := c1 (k + 1) hk1 (by omega)
            exact ⟨by rw [this.1]; omega, by rw [c5 (k + 1) hk1 (by omega), if_pos (by omega)], rfl⟩
          · exact ⟨by rw [c6 l hl hl1, if_neg (by omega)], rfl⟩
        · rintro x h4 ⟨rfl, rfl⟩
          have hb : (if k + 1 > 1 then 1048576 / ((k + 1) * (k + 1 - 1)) else 1048576 / l) ≤ 2 ^ 30 := by split <;> first | exact hw.2.2.1 | exact hw.2.2.2
          refine join_cut (fun x h' => x = (((if k + 1 > 1 then 1048576 / ((k + 1) * (k + 1 - 1)) else 1048576 / l) + (if k + 1 < l / rootI l then 1048576 * rootI l / (l * (k + 1)) else 0) : Nat) : Int) ∧ h' = h4) ?_ ?_
          · rw [c3 l hl hl1]
            refine br_dec (fun e1 => ⟨c4 l hl hl1 (k + 1) hk1 (by omega), ?_, rfl⟩) (fun e1 => ⟨?_, rfl⟩)
            · rw [c7 l hl hl1 (k + 1) hk1 (by omega), i64_add _ _ (by omega) (Nat.le_trans hw.1 (by decide)), if_pos (c := k + 1 < l / rootI l) (Int.ofNat_lt.1 e1)]
            · rw [if_neg (c := k + 1 < l / rootI l) (fun hh => e1 (Int.ofNat_lt.2 hh))]; rfl
          · rintro x h5 ⟨rfl, rfl⟩
            refine join_cut (fun x h' => x = ((weightI l (k + 1) : Nat) : Int) ∧ h' = h5) ?_ ?_
            · rw [c3 l hl hl1]
              refine br_eq (fun e2 => ⟨by omega, ?_, rfl⟩) (fun e2 => ⟨?_, rfl⟩)
              · have hkm : k + 1 = l / rootI l := Int.ofNat_inj.1 e2
                rw [c8 l hl hl1, if_neg (c := k + 1 < l / rootI l) (by omega), Nat.add_zero, i64_add _ _ (by omega) (Nat.le_trans hw.2.1 (by decide)), weightI, if_neg (c := k + 1 < l / rootI l) (by omega), if_pos (c := k + 1 = l / rootI l) hkm]
              · have hkm : ¬ k + 1 = l / rootI l := fun hh => e2 (Int.ofNat_inj.2 hh)
                rw [weightI, if_neg (c := k + 1 = l / rootI l) hkm]
            · rintro x h6 ⟨rfl, rfl⟩
              have e2 : IntKind.wrap .i64 ((sumI l k : Int) + (weightI l (k + 1) : Int)) = ((sumI l (k + 1) : Nat) : Int) := by rw [wrap_small _ (by omega) (by omega), sumI]; rfl
              rw [e2]
              refine H3.push C_ok 0 rfl eInt rfl (by decide) (fun _ => rfl) one_int _ rfl (by decide) (by rw [List.length_take]; omega) fun s' h4 H4 => ?_
              refine ⟨(s', k + 1), by dsimp only; rw [wrap_small _ (by omega) (by omega)]; rfl, ⟨by dsimp only; omega, ?_⟩, by dsimp only; omega⟩
              have e3 : (tableI l).take (k + 1) = (tableI l).take k ++ [((sumI l (k + 1) : Nat) : Int)] := by
                rw [take_snoc _ _ (by rw [tableI_len]; omega)]; simp [tableI]
              dsimp only; rw [e3]; exact H4
      · refine ⟨s, rfl, ?_⟩
        rw [List.take_of_length_le (by rw [tableI_len]; omega)] at H3
        exact H3
end Go.Proofs.YtkcplnfomahleaaGreatDoor
namespace Go.Proofs.YtkcplnfomahleaaGreatDoor
open Go Go.Vc Go.Proofs Wl
set_option maxRecDepth 100000
def sink : List Int → Nat → List Int
  | l, 0 => l
  | l, i + 1 => if getI l (i + 1) < getI l i then sink (swapI l (i + 1) i) i else l
def sinks (l : List Int) : Nat → List Int
  | 0 => l
  | i + 1 => sink (sinks l i) i
theorem sink_len : ∀ (i : Nat) (l : List Int), (sink l i).length = l.length
  | 0, l => rfl
  | i + 1, l => by unfold sink; split; · rw [sink_len i, swap_len]
                   · rfl
theorem sinks_len (l : List Int) : ∀ i, (sinks l i).length = l.length
  | 0 => rfl
  | i + 1 => by rw [sinks, sink_len, sinks_len l i]
theorem getI_lt {l : List Int} {i : Nat} (h : i < l.length) : getI l i = l[i] := by rw [getI, List.getD_eq_getElem?_getD, List.getElem?_eq_getElem h]; rfl
theorem swap_perm (l : List Int) (i : Nat) (h : i + 1 < l.length) : (swapI l (i + 1) i).Perm l := by
  have e : l = l.take i ++ l[i] :: l[i + 1] :: l.drop (i + 2) := by
    rw [← List.drop_eq_getElem_cons (by omega), ← List.drop_eq_getElem_cons (by omega), List.take_append_drop]
  have e2 : swapI l (i + 1) i = l.take i ++ l[i + 1] :: l[i] :: l.drop (i + 2) := by
    rw [swapI, getI_lt (show i < l.length by omega), getI_lt h]
    apply List.ext_getElem?
    intro j
    have hti : (l.take i).length = i := by simp; omega
    rw [List.getElem?_set, List.getElem?_set]
    simp only [List.length_set]
    by_cases h1 : i = j
    · subst h1
      rw [if_pos rfl, if_pos (by omega), List.getElem?_append_right (by omega), hti]; simp
    · rw [if_neg h1]
      by_cases h2 : i + 1 = j
      · subst h2
        rw [if_pos rfl, if_pos (by omega), List.getElem?_append_right (by omega), hti]; simp
      · rw [if_neg h2]
        conv => lhs; rw [e]
        by_cases h3 : j < i
        · rw [List.getElem?_append_left (by omega), List.getElem?_append_left (by omega)]
        · rw [List.getElem?_append_right (by omega), List.getElem?_append_right (by omega), hti]
          obtain ⟨d, hd⟩ : ∃ d, j - i = d + 2 := ⟨j - i - 2, by omega⟩
          rw [hd]; rfl
  rw [e2]
  conv => rhs; rw [e]
  exact List.Perm.append_left _ (List.Perm.swap _ _ _)
theorem sink_perm : ∀ (i : Nat) (l : List Int), i < l.length → (sink l i).Perm l
  | 0, l, _ => .refl _
  | i + 1, l, h => by
    unfold sink
    split
    · exact (sink_perm i _ (by rw [swap_len]; omega)).trans (swap_perm l i h)
    · exact .refl _
theorem sinks_perm (l : List Int) : ∀ i, i ≤ l.length → (sinks l i).Perm l
  | 0, _ => .refl _
  | i + 1, h => (sink_perm i _ (by rw [sinks_len]; omega)).trans (sinks_perm l i (by omega))
def upTo (l : List Int) (n : Nat) : Prop := ∀ a b, a < b → b < n → getI l a ≤ getI l b
theorem get_swap {l : List Int} {i j k : Nat} (hi : i < l.length) (hj : j < l.length) : getI (swapI l i j) k = if k = j then getI l i else if k = i then getI l j else getI l k := by
  simp only [getI, swapI, List.getD_eq_getElem?_getD, List.getElem?_set, List.length_set]
  by_cases h1 : j = k
  · subst h1; simp [hj]
  · by_cases h2 : i = k
    · subst h2; simp [h1, hi]; omega
    · simp [h1, h2]; omega
theorem sink_up (n : Nat) : ∀ (i : Nat) (l : List Int), i < n → n ≤ l.length → (∀ a b, a < b → b < n → a ≠ i → b ≠ i → getI l a ≤ getI l b) → (∀ b, i < b → b < n → getI l i ≤ getI l b) → upTo (sink l i) n
  | 0, l, hi, hn, h1, h2 => fun a b hab hb => by
    unfold sink
    by_cases ha : a = 0
    · subst ha; exact h2 b hab hb
    · exact h1 a b hab hb ha (by omega)
  | i + 1, l, hi, hn, h1, h2 => by
    unfold sink
    split
    · rename_i hlt
      have gs : ∀ k, getI (swapI l (i + 1) i) k = if k = i then getI l (i + 1) else if k = i + 1 then getI l i else getI l k := fun k => get_swap (by omega) (by omega)
      refine sink_up n i _ (by omega) (by rw [swap_len]; exact hn) (fun a b hab hb ha hbi => ?_) (fun b hb hbn => ?_)
      · rw [gs, gs, if_neg ha, if_neg hbi]
        by_cases h3 : a = i + 1
        · rw [if_pos h3, if_neg (by omega)]; exact h1 i b (by omega) hb (by omega) (by omega)
        · rw [if_neg h3]
          by_cases h4 : b = i + 1
          · rw [if_pos h4]; exact h1 a i (by omega) (by omega) h3 (by omega)
          · rw [if_neg h4]; exact h1 a b hab hb h3 h4
      · rw [gs, gs, if_pos rfl, if_neg (by omega)]
        by_cases h4 : b = i + 1
        · rw [if_pos h4]; omega
        · rw [if_neg h4]; exact h2 b (by omega) hbn
    · rename_i hge
      intro a b hab hb
      by_cases hb1 : b = i + 1
      · subst hb1
        by_cases ha : a = i
        · subst ha; omega
        · have := h1 a i (by omega) (by omega) (by omega) (by omega); omega
      · by_cases ha : a = i + 1
        · subst ha; exact h2 b hab hb
        · exact h1 a b hab hb ha hb1
theorem sinks_up (l : List Int) : ∀ i, i ≤ l.length → upTo (sinks l i) i
  | 0, _ => fun a b _ hb => by omega
  | i + 1, h => by
    have ih := sinks_up l i (by omega)
    rw [sinks]
    exact sink_up (i + 1) i _ (by omega) (by rw [sinks_len]; omega) (fun a b hab hb _ hbi => ih a b hab (by omega)) (fun b hb hbn => by omega)
theorem sort_unique {a b : List Int} (hp : a.Perm b) (ha : a.Pairwise (· ≤ ·)) (hb : b.Pairwise (· ≤ ·)) : a = b :=
  hp.eq_of_pairwise (fun x y _ _ h1 h2 => Int.le_antisymm h1 h2) ha hb
theorem sinks_sort (l : List Int) : sinks l l.length = sortI l := by
  refine sort_unique ((sinks_perm l _ (Nat.le_refl _)).trans (List.mergeSort_perm l _).symm) ?_ ?_
  · have := sinks_up l l.length (Nat.le_refl _)
    rw [List.pairwise_iff_getElem]
    intro i j hi hj hij
    have hl := sinks_len l l.length
    have := this i j hij (by omega)
    rwa [getI_lt hi, getI_lt hj] at this
  · have := List.pairwise_mergeSort (le := fun x y : Int => decide (x ≤ y)) (by intro a b c; simp; omega) (by intro a b; simp; omega) l
    exact this.imp (by simp)
end Go.Proofs.YtkcplnfomahleaaGreatDoor
namespace Go.Proofs.YtkcplnfomahleaaGreatDoor
open Go Go.Vc Go.Proofs Wl
set_option maxRecDepth 100000
theorem refSome_spec (a : Addr) (s : Int) (n k : Nat) (h : Heap) (hb : Box h a T_wellspringref01_Draw [.int .u64 s]) (hn : n ≤ 64) (hk : k ≤ n) :
    Meets Tryz.prog wellspringref01_Some_id #[.pointer (some a), .int .i64 n, .int .i64 k] h fun v h' => ∃ r : Sl, v = .slice r.ptr r.len r.cap ∧ SpB (fun b => b < h.size ∧ ¬ b = a.block) h h' [BoxA a T_wellspringref01_Draw [.int .u64 (shuf n s (upto n) k).1], OwnA T_int r 1 intv (someI s n k)] := by
  refine wellspringref01_Some_run (some a) n k ?_
  unfold wellspringref01_Some_m
  refine join_in (br_dec (fun e => by omega) fun _ => br_dec (fun e => by omega) fun _ => br_dec (fun e => by omega) fun _ => br_dec (fun e => by omega) fun _ => ?_)
  have H0 : SpB (fun b => b < h.size ∧ ¬ b = a.block) h h [BoxA a T_wellspringref01_Draw [.int .u64 s]] := .enter1 (fun b => b = a.block) (fun b hb' => by rw [hb']; exact hb.lt) ⟨hb, rfl⟩
  refine loop_inv (fun t : Sl × Nat => (t.1, (t.2 : Int))) (fun t h' => t.2 ≤ n ∧ SpB (fun b => b < h.size ∧ ¬ b = a.block) h h' [BoxA a T_wellspringref01_Draw [.int .u64 s], OwnA T_int t.1 1 intv (upto t.2)]) (fun t => n - t.2) (⟨none, 0, 0⟩, 0) rfl ⟨by simp, H0.nil T_int 1 intv⟩ ?_
  rintro ⟨v, i⟩ h2 ⟨hi, H2⟩
  dsimp only at *
  refine br_dec (fun e => ?_) (fun e => ?_)
  · refine H2.push C_ok 1 rfl eInt rfl (by decide) (fun _ => rfl) one_int (i : Int) rfl (by decide) (by rw [upto_len]; omega) fun v' h3 H3 => ?_
    refine ⟨(v', i + 1), by dsimp only; rw [wrap_small _ (by omega) (by omega)]; rfl, ⟨by dsimp only; omega, ?_⟩, by dsimp only; omega⟩
    dsimp only; rw [upto_snoc]; exact H3
  · have hi' : i = n := by omega
    subst hi'
    refine loop_inv (fun j : Nat => (j : Int)) (fun j h' => j ≤ k ∧ SpB (fun b => b < h.size ∧ ¬ b = a.block) h h' [BoxA a T_wellspringref01_Draw [.int .u64 (shuf i s (upto i) j).1], OwnA T_int v 1 intv (shuf i s (upto i) j).2]) (fun j => k - j) 0 rfl ⟨by omega, H2⟩ ?_
    rintro j h3 ⟨hj, H3⟩
    have hsl := shuf_len i s (upto i) j
    rw [upto_len] at hsl
    refine br_dec (fun e3 => ?_) (fun e3 => ?_)
    · rw [wrap_small _ (by omega) (by omega)]
      have hcast : ((i : Int) - (j : Int)) = ((i - j : Nat) : Int) := by omega
      rw [hcast]
      refine (refBelow_spec a _ _ h3 (H3.box 0 rfl) (by omega) (by omega)).mono ?_
      rintro w h4 ⟨rfl, hb4, hp4⟩
      have H4 := H3.boxStep 0 rfl hp4 hb4
      have hbl := below_lt (shuf i s (upto i) j).1 ((i - j : Nat) : Int) (by omega) (by omega)
      refine ⟨_, rfl, ?_⟩
      dsimp only
      rw [wrap_small _ (by omega) (by omega), wrap_small _ (by omega) (by omega)]
      have hx : (j : Int) + belowI (shuf i s (upto i) j).1 ((i - j : Nat) : Int) = ((j + (belowI (shuf i s (upto i) j).1 ((i - j : Nat) : Int)).toNat : Nat) : Int) := by omega
      have hlt : j + (belowI (shuf i s (upto i) j).1 ((i - j : Nat) : Int)).toNat < (shuf i s (upto i) j).2.length := by omega
      rw [hx]
      have hs4 := H4.seq 1 rfl (fun _ => rfl)
      refine hs4.get1 _ rfl hlt _ rfl ?_
      refine hs4.get1 j rfl (by omega) _ rfl ?_
      refine H4.set C_ok 1 rfl (fun _ => rfl) rfl j rfl (by omega) _ rfl rfl rfl fun h5 H5 => ⟨trivial, ?_⟩
      refine H5.set C_ok 1 rfl (fun _ => rfl) rfl _ rfl (by simpa using hlt) _ rfl rfl rfl fun h6 H6 => ⟨trivial, ?_⟩
      refine ⟨j + 1, rfl, ⟨by omega, ?_⟩, by omega⟩
      rw [shuf, swapI, getI, getI, Go.Vc.getD_lt hlt, Go.Vc.getD_lt (show j < (shuf i s (upto i) j).2.length by omega)]
      exact H6
    · have hj' : j = k := by omega
      subst hj'
      have hcap := (H3.own 1 rfl).cap
      have hlv := (H3.own 1 rfl).len
      refine ⟨⟨by omega, by omega⟩, ?_⟩
      rw [Int.toNat_natCast]
      have H4 := H3.cut 1 rfl (fun _ => rfl) j (by omega)
      obtain ⟨L, hL⟩ : ∃ L, L = (shuf i s (upto i) j).2.take j := ⟨_, rfl⟩
      have hLl : L.length = j := by rw [hL, List.length_take]; omega
      rw [← hL] at H4
      refine loop_inv (fun x : Nat => (x : Int)) (fun x h' => x ≤ j ∧ SpB (fun b => b < h.size ∧ ¬ b = a.block) h h' [BoxA a T_wellspringref01_Draw [.int .u64 (shuf i s (upto i) j).1], OwnA T_int ⟨v.ptr, j, v.cap⟩ 1 intv (sinks L x)]) (fun x => j - x) 0 rfl ⟨by omega, H4⟩ ?_
      rintro x h5 ⟨hx, H5⟩
      refine br_dec (fun e4 => ?_) (fun e4 => ?_)
      · refine loop_inv (fun t : Nat × List Int => (t.1 : Int)) (fun t h' => t.1 ≤ x ∧ t.2.length = j ∧ sink t.2 t.1 = sinks L (x + 1) ∧ SpB (fun b => b < h.size ∧ ¬ b = a.block) h h' [BoxA a T_wellspringref01_Draw [.int .u64 (shuf i s (upto i) j).1], OwnA T_int ⟨v.ptr, j, v.cap⟩ 1 intv t.2]) (fun t => t.1) (x, sinks L x) rfl ⟨by simp, by rw [sinks_len]; exact hLl, rfl, H5⟩ ?_
        rintro ⟨y, M⟩ h6 ⟨hy, hM, hsk, H6⟩
        dsimp only at *
        rw [wrap_small ((x : Int) + 1) (by omega) (by omega)]
        have stop : sink M y = M → ∃ t' : Nat, (x : Int) + 1 = (t' : Int) ∧ (t' ≤ j ∧ SpB (fun b => b < h.size ∧ ¬ b = a.block) h h6 [BoxA a T_wellspringref01_Draw [.int .u64 (shuf i s (upto i) j).1], OwnA T_int ⟨v.ptr, j, v.cap⟩ 1 intv (sinks L t')]) ∧ j - t' < j - x := fun hst =>
          ⟨x + 1, rfl, ⟨by omega, by rw [← hsk, hst]; exact H6⟩, by omega⟩
        refine join_in ?_
        refine br_dec (fun e5 => ?_) (fun e5 => stop (by rw [show y = 0 by omega]; rfl))
        obtain ⟨z, rfl⟩ : ∃ z, y = z + 1 := ⟨y - 1, by omega⟩
        have hz : ((z + 1 : Nat) : Int) - 1 = (z : Int) := by omega
        rw [wrap_small (((z + 1 : Nat) : Int) - 1) (by omega) (by omega), hz]
        have hs6 := H6.seq 1 rfl (fun _ => rfl)
        have g1 := getI_lt (show z < M.length by omega)
        have g2 := getI_lt (show z + 1 < M.length by omega)
        refine hs6.get1 (z + 1) rfl (by omega) _ rfl ?_
        refine hs6.get1 z rfl (by omega) _ rfl ?_
        refine br_dec (fun e6 => ?_) (fun e6 => stop (by rw [sink, if_neg (by omega)]))
        refine hs6.get1 z rfl (by omega) _ rfl ?_
        refine hs6.get1 (z + 1) rfl (by omega) _ rfl ?_
        refine H6.set C_ok 1 rfl (fun _ => rfl) rfl (z + 1) rfl (by omega) _ rfl rfl rfl fun h7 H7 => ⟨trivial, ?_⟩
        refine H7.set C_ok 1 rfl (fun _ => rfl) rfl z rfl (by simp; omega) _ rfl rfl rfl fun h8 H8 => ⟨trivial, ?_⟩
        refine ⟨(z, swapI M (z + 1) z), rfl, ⟨by dsimp only; omega, by dsimp only; rw [swap_len]; exact hM, ?_, ?_⟩, by dsimp only; omega⟩
        · dsimp only; rw [← hsk]; conv => rhs; rw [sink]
          rw [if_pos (by omega)]
        · dsimp only; rw [swapI, g1, g2]; exact H8
      · have : x = j := by omega
        subst this
        refine ⟨⟨v.ptr, x, v.cap⟩, rfl, ?_⟩
        have hh := sinks_sort L
        rw [hLl] at hh
        rw [hh, hL] at H5
        exact H5
theorem refAt_spec (p : Pm) (seed id : Int) (h : Heap) : Meets Tryz.prog wellspringref01_At_id #[pmv p, .int .u32 seed, .int .i64 id] h fun v h' => ∃ r : Sl, v = .slice r.ptr r.len r.cap ∧ Sp h h' [OwnA T_int r 1 intv (if mayP p && mayID id then colsI (colsP p).toNat seed id else [])] := by
  refine wellspringref01_At_run p seed id ?_
  unfold wellspringref01_At_m
  refine (Sp.refl h).boxed fun a h1 H1 => ?_
  refine join_in ?_
  refine ⟨p, (H1.box 0 rfl).cells0 _ rfl, (refMay_spec p h1).mono ?_⟩
  rintro v h2 ⟨rfl, R2⟩
  have H2 := H1.comp R2
  have no : (mayP p && mayID id) = false → Sp h h2 [OwnA T_int ⟨none, 0, 0⟩ 1 intv (if mayP p && mayID id then colsI (colsP p).toNat seed id else [])] := fun hf => by
    rw [hf]; exact (H2.nil T_int 1 intv).take 1 (fun i A hi => by cases i with | zero => exact hi | succ i => simp at hi)
  refine ⟨_, rfl, br_not (fun e => ⟨⟨none, 0, 0⟩, rfl, no (by rw [e]; rfl)⟩) fun hp => ?_⟩
  refine (refMayID_spec id h2).mono ?_
  rintro v h3 ⟨rfl, rfl⟩
  refine ⟨_, rfl, br_not (fun e => ⟨⟨none, 0, 0⟩, rfl, no (by rw [e]; simp)⟩) fun hid => ?_⟩
  rw [hp, hid]
  have hpp := (mayP_iff p).1 hp
  have hc : colsP p = p.1 + p.2.1 := by rw [colsP, if_pos hp]
  obtain ⟨n, hn⟩ : ∃ n : Nat, colsP p = n := ⟨(colsP p).toNat, by omega⟩
  rw [hn, Int.toNat_natCast]
  refine H2.boxed (t := T_wellspringref01_Draw) fun d h4 H4 => ?_
  refine (refNext_spec d _ h4 (H4.box 1 rfl)).mono ?_
  rintro v h5 ⟨rfl, hb5, hp5⟩
  have H5 := H4.boxStep 1 rfl hp5 hb5
  refine ⟨_, rfl, p, (H5.box 0 rfl).cells0 _ rfl, (refCols_spec p h5).mono ?_⟩
  rintro v h6 ⟨rfl, R6⟩
  have H6 := H5.comp R6
  refine ⟨_, rfl, ?_⟩
  dsimp only
  rw [hn]
  refine (refTable_spec n h6 (by omega) (by omega)).mono ?_
  rintro v h7 ⟨t, rfl, R7⟩
  have H7 := H6.comp R7
  refine ⟨t, rfl, ?_⟩
  have hnb : ∀ b, t.on b → b ≠ d.block := fun b hb he => by
    have h1 := (R7.fresh 0 rfl).2 b hb
    have h2 := (H6.box 1 rfl).lt
    omega
  refine (refDraw_spec t n d _ h7 ((R7.own 0 rfl).seq (fun _ => rfl) hnb) (H7.box 1 rfl) (by omega) (by omega)).mono ?_
  rintro v h8 ⟨rfl, hb8, hp8⟩
  have H8 := H7.boxStep 1 rfl hp8 hb8
  refine ⟨_, rfl, p, (H8.box 0 rfl).cells0 _ rfl, (refCols_spec p h8).mono ?_⟩
  rintro v h9 ⟨rfl, R9⟩
  have H9 := H8.comp R9
  refine ⟨_, rfl, ?_⟩
  dsimp only
  rw [hn]
  refine (refSome_spec d _ n _ h9 (H9.box 1 rfl) (by omega) (degOf_le _ n (by omega) (by omega))).mono ?_
  rintro v h10 ⟨r, rfl, R10⟩
  have R := H9.call 1 rfl (fun b => b = d.block) (fun q hq b hb => by rw [hb]; exact hq.2) R10
  exact ⟨r, rfl, r, rfl, (R.take 3 (fun i A hi => by cases i with | zero => exact hi | succ i => simp at hi))⟩
theorem refRow_spec (p : Pm) (seed id : Int) (h : Heap) : Meets Tryz.prog wellspringref01_Row_id #[pmv p, .int .u32 seed, .int .i64 id] h fun v h' => ∃ r : Sl, v = .slice r.ptr r.len r.cap ∧
    Sp h h' [OwnA T_uint8 r 1 u8v (if mayP p && mayID id then rowI (colsP p).toNat seed id else [])] := by
  refine wellspringref01_Row_run p seed id ?_
  unfold wellspringref01_Row_m
  refine (Sp.refl h).boxed fun a h1 H1 => ?_
  refine join_in ?_
  refine ⟨p, (H1.box 0 rfl).cells0 _ rfl, (refMay_spec p h1).mono ?_⟩
  rintro v h2 ⟨rfl, R2⟩
  have H2 := H1.comp R2
  have no : (mayP p && mayID id) = false → Sp h h2 [OwnA T_uint8 ⟨none, 0, 0⟩ 1 u8v (if mayP p && mayID id then rowI (colsP p).toNat seed id else [])] := fun hf => by
    rw [hf]; exact (H2.nil T_uint8 1 u8v).take 1 (fun i A hi => by cases i with | zero => exact hi | succ i => simp at hi)
  refine ⟨_, rfl, br_not (fun e => ⟨⟨none, 0, 0⟩, rfl, no (by rw [e]; rfl)⟩) fun hp => ?_⟩
  refine (refMayID_spec id h2).mono ?_
  rintro v h3 ⟨rfl, rfl⟩
  refine ⟨_, rfl, br_not (fun e => ⟨⟨none, 0, 0⟩, rfl, no (by rw [e]; simp)⟩) fun hid => ?_⟩
  refine ⟨p, (H2.box 0 rfl).cells0 _ rfl, (refCols_spec p _).mono ?_⟩
  rintro v h4 ⟨rfl, R3⟩
  have H3 := H2.comp R3
  have hpp := (mayP_iff p).1 hp
  have hc : colsP p = p.1 + p.2.1 := by rw [colsP, if_pos hp]
  obtain ⟨n, hn⟩ : ∃ n : Nat, colsP p = n := ⟨(colsP p).toNat, by omega⟩
  refine ⟨_, rfl, ?_⟩
  dsimp only
  rw [hn]
  refine H3.make C_ok u8v eU8 (by decide) 0 rfl rfl n n rfl rfl (Nat.le_refl _) (by omega) fun v h4 hl hcp H4 => ?_
  refine ⟨p, (H4.box 0 rfl).cells0 _ rfl, (refAt_spec p seed id h4).mono ?_⟩
  rintro w h5 ⟨c, rfl, R5⟩
  rw [hp, hid, hn, Int.toNat_natCast] at R5
  rw [hp, hid, Int.toNat_natCast]
  have H5 := H4.comp R5
  have hcs := H5.seq 2 rfl (fun _ => rfl)
  have hcl := hcs.len
  obtain ⟨cs, hcs'⟩ : ∃ cs, cs = colsI n seed id := ⟨_, rfl⟩
  have hin : ∀ x ∈ cs, 0 ≤ x ∧ x < (n : Int) := fun x hx => colsI_mem (by omega) (by omega) (by rw [← hcs']; exact hx)
  have hcl2 : cs.length ≤ n := by rw [hcs']; exact colsI_len (by omega) (by omega) _ _
  simp only [Bool.and_self, if_true, ← hcs'] at H5 hcs hcl R5
  refine ⟨c, rfl, ?_⟩
  refine loop_inv (fun i : Nat => (i : Int)) (fun i h' => i ≤ cs.length ∧ Sp h h' [BoxA a T_api_Params [.int .i64 p.1, .int .i64 p.2.1, .int .i64 p.2.2], OwnA T_uint8 v 1 u8v (onesI n (cs.take i)), OwnA T_int c 1 intv cs]) (fun i => cs.length - i) 0 rfl ⟨by omega, H5⟩ ?_
  rintro i h6 ⟨hi, H6⟩
  refine br_dec (fun e => ?_) (fun e => ?_)
  · have hi' : i < cs.length := by omega
    have hx := hin _ (List.getElem_mem hi')
    refine (H6.seq 2 rfl (fun _ => rfl)).get1 i rfl hi' _ rfl ?_
    refine H6.set C_ok 1 rfl (fun _ => rfl) rfl cs[i].toNat (by omega) (by rw [ones_len]; omega) 1 rfl rfl rfl fun h7 H7 => ?_
    refine ⟨i + 1, by rw [wrap_small _ (by omega) (by omega)]; rfl, ⟨by omega, ?_⟩, by omega⟩
    have e2 : onesI n (cs.take (i + 1)) = (onesI n (cs.take i)).set cs[i].toNat 1 := by rw [take_snoc _ _ hi', onesI, List.foldl_append]; rfl
    rw [e2]; exact H7
  · rw [List.take_of_length_le (by omega)] at H6
    have Hf : Sp h h6 [OwnA T_uint8 v 1 u8v (onesI n cs)] := (H6.del 2).take 1 (fun i A hi => by cases i with | zero => exact hi | succ i => simp at hi)
    refine ⟨v, rfl, ?_⟩
    rw [hcs'] at Hf; exact Hf
theorem refAhead_spec (p : Pm) (h : Heap) (hp : mayP p = true) : Meets Tryz.prog wellspringref01_Ahead_id #[pmv p] h fun v h' => ∃ r : Sl, v = .slice r.ptr r.len r.cap ∧ Sp h h' [RowsA T_sl_uint8 r 1 u8v (aheadRows p.1.toNat p.2.1.toNat)] := by
  refine wellspringref01_Ahead_run p ?_
  unfold wellspringref01_Ahead_m
  refine (Sp.refl h).boxed fun a h1 H1 => ?_
  have hpp := (mayP_iff p).1 hp
  obtain ⟨K, hK⟩ : ∃ K : Nat, p.1 = K := ⟨p.1.toNat, by omega⟩
  obtain ⟨Hh, hH⟩ : ∃ H : Nat, p.2.1 = H := ⟨p.2.1.toNat, by omega⟩
  refine join_in ?_
  refine loop_inv (fun t : Sl × Nat => (t.1, (t.2 : Int))) (fun t h' => t.2 ≤ Hh ∧ Sp h h' [BoxA a T_api_Params [.int .i64 p.1, .int .i64 p.2.1, .int .i64 p.2.2], RowsA T_sl_uint8 t.1 1 u8v ((aheadRows K Hh).take t.2)]) (fun t => Hh - t.2) (⟨none, 0, 0⟩, 0) rfl ⟨by simp, H1.rows0 T_sl_uint8 1 u8v⟩ ?_
  rintro ⟨s, k⟩ h4 ⟨hk, H4⟩
  dsimp only at *
  refine join_in ⟨p.2.1, (H4.box 0 rfl).cell rfl, ?_⟩
  refine br_dec (fun e => ?_) (fun e => ?_)
  · have hk' : k < Hh := by omega
    refine ⟨p, (H4.box 0 rfl).cells0 _ rfl, (refMay_spec p h4).mono ?_⟩
    rintro v h5 ⟨rfl, R5⟩
    have H5 : Sp h h5 [BoxA a T_api_Params [.int .i64 p.1, .int .i64 p.2.1, .int .i64 p.2.2], RowsA T_sl_uint8 s 1 u8v ((aheadRows K Hh).take k)] := H4.up R5.pres
    refine ⟨_, rfl, br_t hp ?_⟩
    refine ⟨p.1, (H5.box 0 rfl).cell0 rfl, p.2.1, (H5.box 0 rfl).cell rfl, ?_⟩
    rw [wrap_small (p.1 + p.2.1) (by omega) (by omega)]
    refine H5.make C_ok u8v eU8 (by decide) 0 rfl rfl (K + Hh) (K + Hh) (by omega) (by omega) (Nat.le_refl _) (by omega) fun u h6 hl6 hc6 H6 => ?_
    let rowAt : Nat → List UInt8 := fun j => (List.range j).map (fun i => Gf.pw ((k + 1) * (i + 1) % 255)) ++ List.replicate (K + Hh - j) (0 : UInt8)
    refine loop_inv (fun j : Nat => (j : Int)) (fun j h' => j ≤ K ∧ Sp h h' [BoxA a T_api_Params [.int .i64 p.1, .int .i64 p.2.1, .int .i64 p.2.2], RowsA T_sl_uint8 s 1 u8v ((aheadRows K Hh).take k), OwnA T_uint8 u 1 u8v (rowAt j)]) (fun j => K - j) 0 rfl ⟨by omega, H6⟩ ?_
    rintro j h7 ⟨hj, H7⟩
    refine ⟨p.1, (H7.box 0 rfl).cell0 rfl, ?_⟩
    have hlen : (rowAt j).length = K + Hh := by simp [rowAt]; omega
    refine br_dec (fun e3 => ?_) (fun e3 => ?_)
    · have hj' : j < K := by omega
      have hm : (k + 1) * (j + 1) ≤ 4 * 16 := Nat.mul_le_mul (by omega) (by omega)
      have e4 : IntKind.wrap .i64 (IntKind.wrap .i64 ((k : Int) + 1) * IntKind.wrap .i64 ((j : Int) + 1)) = (((k + 1) * (j + 1) : Nat) : Int) := by
        rw [wrap_small ((k : Int) + 1) (by omega) (by omega), wrap_small ((j : Int) + 1) (by omega) (by omega), show ((k : Int) + 1) * ((j : Int) + 1) = (((k + 1) * (j + 1) : Nat) : Int) by rw [Int.natCast_mul]; rfl]
        exact i64_of_nat _ (by omega)
      rw [e4]
      refine (refExp_spec _ h7).mono ?_
      rintro v h8 ⟨rfl, rfl⟩
      refine ⟨_, rfl, ?_⟩
      refine H7.set C_ok 2 rfl (fun _ => rfl) rfl j rfl (by omega) _ rfl rfl rfl fun h9 H9 => ?_
      refine ⟨j + 1, by rw [wrap_small _ (by omega) (by omega)]; rfl, ⟨by omega, ?_⟩, by omega⟩
      have e5 : (rowAt j).set j (Gf.pw ((((k + 1) * (j + 1) : Nat) : Int) % 255).toNat) = rowAt (j + 1) := by
        have e6 : ((((k + 1) * (j + 1) : Nat) : Int) % 255).toNat = (k + 1) * (j + 1) % 255 := by omega
        rw [e6]
        simp only [rowAt]
        rw [List.set_append_right _ _ (by simp), List.length_map, List.length_range, Nat.sub_self, show K + Hh - j = K + Hh - (j + 1) + 1 by omega, List.replicate_succ, List.set_cons_zero, List.range_succ, List.map_append, List.append_assoc]
        rfl
      rw [← e5]; exact H9
    · have hj' : j = K := by omega
      subst hj'
      refine ⟨p.1, (H7.box 0 rfl).cell0 rfl, ?_⟩
      rw [wrap_small (p.1 + k) (by omega) (by omega)]
      refine H7.set C_ok 2 rfl (fun _ => rfl) rfl (j + k) (by omega) (by omega) 1 rfl rfl rfl fun h8 H8 => ?_
      have e5 : (rowAt j).set (j + k) 1 = aheadRow j Hh k := by
        simp only [rowAt, aheadRow]
        rw [List.set_append_right _ _ (by simp)]
        congr 1
        apply List.ext_getElem?
        intro i
        rw [List.length_map, List.length_range, List.getElem?_set, List.getElem?_map, List.length_replicate, List.getElem?_replicate]
        by_cases hi : i < Hh
        · rw [List.getElem?_range hi, Option.map_some]
          by_cases hik : i = k
          · subst hik; rw [if_pos (by omega), if_pos (by omega)]; simp
          · rw [if_neg (by omega), if_pos (by omega), if_neg hik]
        · rw [List.getElem?_eq_none (l := List.range Hh) (by simp; omega), if_neg (by omega), if_neg (by omega)]; rfl
      rw [e5] at H8
      have H9 := H8.freeze 2 rfl (fun _ => rfl)
      have hll : ((aheadRows j Hh).take k).length = k := by simp [aheadRows]; omega
      refine H9.rowPush C_ok 1 2 (by decide) rfl rfl eSlU8 (by omega) fun s' h10 H10 => ?_
      refine ⟨(s', k + 1), by dsimp only; rw [wrap_small _ (by omega) (by omega)]; rfl, ⟨by dsimp only; omega, ?_⟩, by dsimp only; omega⟩
      have e7 : (aheadRows j Hh).take (k + 1) = (aheadRows j Hh).take k ++ [aheadRow j Hh k] := by
        rw [take_snoc _ _ (by simp [aheadRows]; omega)]; simp [aheadRows]
      dsimp only
      rw [e7]
      exact H10.del 2
  · refine ⟨s, rfl, ?_⟩
    rw [hK, hH, Int.toNat_natCast, Int.toNat_natCast]
    rw [List.take_of_length_le (by simp [aheadRows]; omega)] at H4
    exact H4.take 1 (fun i A hi => by cases i with | zero => exact hi | succ i => simp at hi)
theorem refMatrix_spec (p : Pm) (seed : Int) (ids : Sl) (l : List Int) (h : Heap) (hl : Rd h ids 1 intv l) (hsz : l.length ≤ 2 ^ 30) : Meets Tryz.prog wellspringref01_Matrix_id #[pmv p, .int .u32 seed, .slice ids.ptr ids.len ids.cap] h fun v h' => ∃ r : Sl, v = .slice r.ptr r.len r.cap ∧ Sp h h' [RowsA T_sl_uint8 r 1 u8v (matI p seed l)] := by
  refine wellspringref01_Matrix_run p seed ids ?_
  unfold wellspringref01_Matrix_m
  refine (Sp.refl h).boxed fun a h1 H1 => ?_
  refine ⟨p, (H1.box 0 rfl).cells0 _ rfl, (refMay_spec p h1).mono ?_⟩
  rintro v h2 ⟨rfl, R2⟩
  have H2 : Sp h h2 [BoxA a T_api_Params [.int .i64 p.1, .int .i64 p.2.1, .int .i64 p.2.2]] := H1.up R2.pres
  refine ⟨_, rfl, br_not (fun e => ⟨⟨none, 0, 0⟩, rfl, ?_⟩) fun hp => ?_⟩
  · rw [matI, e]; exact (H2.rows0 T_sl_uint8 1 u8v).take 1 (fun i A hi => by cases i with | zero => exact hi | succ i => simp at hi)
  refine ⟨p, (H2.box 0 rfl).cells0 _ rfl, (refAhead_spec p h2 hp).mono ?_⟩
  rintro v h3 ⟨r, rfl, R3⟩
  have H3 := H2.comp R3
  refine ⟨r, rfl, ?_⟩
  have hlen := hl.len
  let at_ : Nat → List (List UInt8) := fun k => matI p seed (l.take k)
  have h0 : aheadRows p.1.toNat p.2.1.toNat = at_ 0 := by simp [at_, matI, hp]
  rw [h0] at H3
  refine loop_inv (fun t : Sl × Nat => (t.1, (t.2 : Int))) (fun t h' => t.2 ≤ l.length ∧ Sp h h' [BoxA a T_api_Params [.int .i64 p.1, .int .i64 p.2.1, .int .i64 p.2.2], RowsA T_sl_uint8 t.1 1 u8v (at_ t.2)]) (fun t => l.length - t.2) (r, 0) rfl ⟨by simp, H3⟩ ?_
  rintro ⟨s, k⟩ h3 ⟨hk, H3⟩
  dsimp only at *
  refine br_dec (fun e => ?_) (fun e => ?_)
  · have hk' : k < l.length := by omega
    refine (Seq.up hl H3.pres).get1 k rfl hk' _ rfl ((refMayID_spec l[k] h3).mono ?_)
    rintro v h4 ⟨rfl, rfl⟩
    refine ⟨_, rfl, ?_⟩
    have hml := matI_len p seed (l.take k)
    rw [List.length_take] at hml
    have hat : (at_ k).length + 1 ≤ 2 ^ 32 := by show (matI p seed (l.take k)).length + 1 ≤ 2 ^ 32; omega
    refine br_b (fun e2 => ?_) (fun e2 => ?_)
    · refine ⟨p, (H3.box 0 rfl).cells0 _ rfl, (refRow_spec p seed l[k] _).mono ?_⟩
      rintro v h5 ⟨w, rfl, R4⟩
      rw [hp, show mayID l[k] = true from e2] at R4
      have H4 := (H3.comp R4).freeze 2 rfl (fun _ => rfl)
      refine ⟨w, rfl, ?_⟩
      refine H4.rowPush C_ok 1 2 (by decide) rfl rfl eSlU8 hat fun s' h5 H5 => ?_
      refine ⟨(s', k + 1), by dsimp only; rw [wrap_small _ (by omega) (by omega)]; rfl, ⟨by dsimp only; omega, ?_⟩, by dsimp only; omega⟩
      have e7 : at_ (k + 1) = at_ k ++ [rowI (colsP p).toNat seed l[k]] := by
        simp only [at_]
        rw [take_snoc _ _ hk', matI_snoc, hp, show mayID l[k] = true from e2]; rfl
      dsimp only
      rw [e7]; exact H5.del 2
    · refine ⟨(s, k + 1), by dsimp only; rw [wrap_small _ (by omega) (by omega)]; rfl, ⟨by dsimp only; omega, ?_⟩, by dsimp only; omega⟩
      have e7 : at_ (k + 1) = at_ k := by
        simp only [at_]
        rw [take_snoc _ _ hk', matI_snoc, show mayID l[k] = false from e2, Bool.and_false]; rfl
      dsimp only
      rw [e7]; exact H3
  · refine ⟨s, rfl, ?_⟩
    have e7 : at_ k = matI p seed l := by simp only [at_]; rw [List.take_of_length_le (by omega)]
    rw [e7] at H3
    exact H3.take 1 (fun i A hi => by cases i with | zero => exact hi | succ i => simp at hi)
end Go.Proofs.YtkcplnfomahleaaGreatDoor
namespace Go.Proofs.YtkcplnfomahleaaGreatDoor
open Go Go.Vc Go.Proofs Wl
set_option maxRecDepth 100000
theorem refMayMat_spec (a : Sl) (m : Mat) (n : Nat) (h : Heap) (ha : Rd2 h a 1 u8v m) (hm : evenB n m) (hn : n ≤ 64) (hs : m.length ≤ 2 ^ 30) : Meets Tryz.prog wellspringref01_MayMat_id #[.slice a.ptr a.len a.cap] h fun v h' => v = .bool true ∧ h' = h := by
  refine wellspringref01_MayMat_run a ?_
  unfold wellspringref01_MayMat_m
  have hl := ha.len
  refine loop_inv (fun k : Nat => (k : Int)) (fun k h' => h' = h ∧ k ≤ m.length) (fun k => m.length - k) 0 rfl ⟨rfl, by omega⟩ ?_
  rintro k h' ⟨rfl, hk⟩
  refine br_dec (fun e => ?_) (fun e => ⟨rfl, rfl⟩)
  have hk' : k < m.length := by omega
  refine ha.get k rfl hk' fun r hr => ?_
  refine ha.get 0 rfl (by omega) fun r0 hr0 => ?_
  have h1 := hr.len; have h2 := hr0.len
  rw [hm _ (List.getElem_mem _)] at h1 h2
  refine br_ne (fun e => by omega) fun _ => ?_
  refine ha.get k rfl hk' fun r1 hr1 => ?_
  have h3 := hr1.len
  rw [hm _ (List.getElem_mem _)] at h3
  refine br_dec (fun e => by omega) fun _ => ?_
  exact ⟨k + 1, by rw [wrap_small _ (by omega) (by omega)]; rfl, ⟨rfl, by omega⟩, by omega⟩
theorem find_range_succ (P : Nat → Bool) (i : Nat) : (List.range (i + 1)).find? P = ((List.range i).find? P).or (if P i then some i else none) := by
  rw [List.range_succ, List.find?_append]
  congr 1
  by_cases h : P i <;> simp [h]
def optI : Option Nat → Int
  | some i => i
  | none => -1
theorem swapB_comm (m : Mat) (i j : Nat) : swapB m i j = swapB m j i := by
  by_cases h : i = j
  · rw [h]
  · rw [swapB, swapB, List.set_comm _ _ (fun hh => h hh.symm)]
theorem add_nought {a t : Row} (h : a.length = t.length) : addB 0 a t = t := by
  apply List.ext_getElem (by rw [add_len h])
  intro i h1 h2
  simp [addB, Gf.zero_mul]
set_option maxHeartbeats 4000000 in
theorem refReduce_spec (a : Sl) (m : Mat) (n : Nat) (h : Heap) (ha : Rd2 h a 1 u8v m) (hm : evenB n m) (hn : n ≤ 64) (hs : m.length ≤ 2 ^ 30) :
    Meets Tryz.prog wellspringref01_Reduce_id #[.slice a.ptr a.len a.cap] h fun v h' => ∃ r : Sl, v = .slice r.ptr r.len r.cap ∧ r.len = rankB m ∧ Sp h h' [] := by
  refine wellspringref01_Reduce_run a ?_
  unfold wellspringref01_Reduce_m
  refine (refMayMat_spec a m n h ha hm hn hs).mono ?_
  rintro v h1 ⟨rfl, rfl⟩
  refine ⟨_, rfl, br_not (fun e => by cases e) fun _ => ?_⟩
  have hl := ha.len
  refine loop_inv (fun t : Sl × List Sl => (t.1, (t.2.length : Int))) (fun t h' => t.2.length ≤ m.length ∧ Sp h1 h' (OwnA T_sl_uint8 t.1 1 slv t.2 :: ownRows T_uint8 1 u8v t.2 (m.take t.2.length))) (fun t => m.length - t.2.length) (⟨none, 0, 0⟩, []) rfl ⟨by simp, by simpa [ownRows] using (Sp.refl h1).nil T_sl_uint8 1 slv⟩ ?_
  rintro ⟨s, rs⟩ h2 ⟨hk, H2⟩
  dsimp only at *
  refine br_dec (fun e => ?_) (fun e => ?_)
  · have hk' : rs.length < m.length := by omega
    refine (ha.up H2.pres).get rs.length rfl hk' fun r hr => ?_
    have hrl : m[rs.length].length = n := hm _ (List.getElem_mem _)
    have hol : (ownRows T_uint8 1 u8v rs (m.take rs.length)).length = rs.length := by rw [ownRows_len (by rw [List.length_take]; omega), List.length_take]; omega
    have Hn : SpB (fun b => b < h1.size) h1 h2 ((OwnA T_sl_uint8 s 1 slv rs :: ownRows T_uint8 1 u8v rs (m.take rs.length)) ++ [OwnA T_uint8 ⟨none, 0, 0⟩ 1 u8v []]) := H2.nil T_uint8 1 u8v
    have hlast : ((OwnA T_sl_uint8 s 1 slv rs :: ownRows T_uint8 1 u8v rs (m.take rs.length)) ++ [OwnA T_uint8 ⟨none, 0, 0⟩ 1 u8v ([] : List UInt8)])[rs.length + 1]? = some (OwnA T_uint8 ⟨none, 0, 0⟩ 1 u8v []) := by
      rw [List.getElem?_append_right (by simp; omega), List.length_cons, hol, Nat.sub_self]; rfl
    refine Hn.append C_ok (rs.length + 1) hlast eU8 ⟨_, _, rfl, rfl⟩ rfl (by decide) (fun _ => rfl) hr one_u8 (by simp; omega) fun w h3 H3 => ?_
    have H3' : Sp h1 h3 ((OwnA T_sl_uint8 s 1 slv rs :: ownRows T_uint8 1 u8v rs (m.take rs.length)) ++ [OwnA T_uint8 w 1 u8v m[rs.length]]) := by
      rw [List.set_append_right _ _ (by simp; omega), List.length_cons, hol, Nat.sub_self] at H3
      exact H3
    refine H3'.push C_ok 0 rfl eSlU8 rfl (by decide) (fun _ => rfl) one_sl w rfl (by decide) (by omega) fun s' h4 H4 => ?_
    refine ⟨(s', rs ++ [w]), by dsimp only; rw [wrap_small _ (by omega) (by omega)]; simp, ⟨by simp; omega, ?_⟩, by simp; omega⟩
    dsimp only
    rw [show (rs ++ [w]).length = rs.length + 1 by simp, take_snoc _ _ hk', ownRows_snoc (by rw [List.length_take]; omega)]
    exact H4
  · have e2 : m.take rs.length = m := List.take_of_length_le (by omega)
    rw [e2] at H2
    have hlm : rs.length = m.length := by omega
    have hsl : s.len = m.length := by rw [(H2.own 0 rfl).len, hlm]
    have hcap := (H2.own 0 rfl).cap
    have hwid : m ≠ [] → widthB m = n := fun hne => by
      have : 0 < m.length := List.length_pos_iff.2 hne
      rw [widthB, row_lt this]; exact hm _ (List.getElem_mem _)
    refine join_cut (fun (d : Int) h' => d = (rankB m : Int) ∧ Sp h1 h' []) ?_ ?_
    · refine loop_inv (fun t : List Sl × Nat => (((reduceB m t.2).1 : Int), (t.2 : Int))) (fun t h' => t.2 ≤ widthB m ∧ t.1.length = m.length ∧ Sp h1 h' (matA s t.1 (reduceB m t.2).2)) (fun t => widthB m - t.2) (rs, 0) rfl ⟨by simp, hlm, H2⟩ ?_
      rintro ⟨rs1, col⟩ h3 ⟨hcol, hl1, H3⟩
      dsimp only at *
      have hev := reduce_even hm col
      have htop := reduce_top m col
      have fin : ¬ (0 < m.length ∧ col < widthB m) → ((reduceB m col).1 : Int) = (rankB m : Int) ∧ Sp h1 h3 [] := fun hh => by
        refine ⟨?_, .zip H3.pres⟩
        by_cases h0 : 0 < m.length
        · have : col = widthB m := by omega
          rw [this]; rfl
        · have : m = [] := List.eq_nil_of_length_eq_zero (by omega)
          subst this
          rw [rankB, reduce_nil, reduce_nil]
      obtain ⟨st, hst⟩ : ∃ st, st = reduceB m col := ⟨_, rfl⟩
      rw [← hst] at hev htop H3 fin ⊢
      obtain ⟨top, m1⟩ := st
      dsimp only at hev htop H3 fin ⊢
      have hlm1 : rs1.length = m1.length := by omega
      have hstep : reduceB m (col + 1) = stepB (top, m1) col := by rw [reduceB, ← hst]
      refine join_in ?_
      refine br_dec (fun e0 => ?_) (fun e0 => fin (by omega))
      have hne : m ≠ [] := fun hh => by rw [hh] at hsl; simp at hsl; omega
      have hw := hwid hne
      refine (H3.mat hlm1 (fun _ => rfl)).get 0 rfl (by omega) fun r0 hr0 => ?_
      have hr0l := hr0.len
      rw [hev.1 _ (List.getElem_mem _)] at hr0l
      refine br_dec (fun e1 => ?_) (fun e1 => fin (by omega))
      have hcn : col < n := by omega
      have hrd2 : Rd2 h3 s 1 u8v m1 := H3.mat hlm1 (fun _ => rfl)
      let P : Nat → Bool := fun i => decide (top ≤ i) && (colB (rowB m1 i) col != 0)
      have hP0 : (List.range top).find? P = none := find_none' fun j hj => by show (decide (top ≤ j) && _) = false; rw [decide_eq_false (by omega)]; rfl
      refine loop_inv (fun i : Nat => (optI ((List.range i).find? P), (i : Int))) (fun i h' => h' = h3 ∧ top ≤ i ∧ i ≤ m1.length) (fun i => m1.length - i) top (by rw [hP0]; rfl) ⟨rfl, Nat.le_refl _, htop⟩ ?_
      rintro i h4 ⟨rfl, hi1, hi2⟩
      dsimp only
      refine br_dec (fun e2 => ?_) (fun e2 => ?_)
      · have hi' : i < m1.length := by omega
        have hrl : m1[i].length = n := hev.1 _ (List.getElem_mem _)
        refine hrd2.get i rfl hi' fun r hr => ?_
        refine hr.get1 col rfl (by omega) _ rfl ?_
        have hcell : colB (rowB m1 i) col = m1[i][col]'(by omega) := by rw [row_lt hi', col_lt (by omega)]
        rw [wrap_small ((i : Int) + 1) (by omega) (by omega)]
        have hfs := find_range_succ P i
        have nx : ∀ x : Int, x = optI ((List.range (i + 1)).find? P) → ∃ t' : Nat, (x, (i : Int) + 1) = (optI ((List.range t').find? P), (t' : Int)) ∧ (h4 = h4 ∧ top ≤ t' ∧ t' ≤ m1.length) ∧ m1.length - t' < m1.length - i := fun x hx =>
          ⟨i + 1, by rw [hx]; rfl, ⟨rfl, by omega, by omega⟩, by omega⟩
        refine br_ne (fun e3 => ?_) (fun e3 => ?_)
        · have hPi : P i = true := by
            show (decide (top ≤ i) && (colB (rowB m1 i) col != 0)) = true
            rw [decide_eq_true hi1, hcell]; simp; exact fun h0 => e3 (by rw [h0]; rfl)
          rw [hPi, if_pos rfl] at hfs
          refine br_dec (fun e4 => nx _ ?_) (fun e4 => nx _ ?_)
          · cases hf : (List.range i).find? P with
            | none => rw [hfs, hf]; rfl
            | some x => rw [hf] at e4; simp only [optI] at e4; omega
          · cases hf : (List.range i).find? P with
            | none => rw [hf] at e4; simp [optI] at e4
            | some x => rw [hfs, hf]; rfl
        · have hPi : P i = false := by
            show (decide (top ≤ i) && (colB (rowB m1 i) col != 0)) = false
            rw [hcell, nat0.1 e3]; simp
          rw [hPi] at hfs
          refine nx _ ?_
          rw [hfs]
          cases (List.range i).find? P <;> rfl
      · have hie : i = m1.length := by omega
        subst hie
        have hbeg : (List.range m1.length).find? P = beginsB m1 top col := rfl
        rw [hbeg]
        cases hb : beginsB m1 top col with
        | none =>
          refine br_dec (fun _ => ?_) (fun e2 => absurd (by decide) e2)
          refine ⟨(rs1, col + 1), ?_, ⟨by dsimp only; omega, hl1, ?_⟩, by dsimp only; omega⟩
          · dsimp only; rw [hstep, stepB, hb, wrap_small _ (by omega) (by omega)]; rfl
          · dsimp only; rw [hstep, stepB, hb]; exact H3
        | some at_ =>
          have hh := begins_some hb
          refine br_dec (fun e2 => absurd (show ((at_ : Nat) : Int) < 0 from e2) (by omega)) (fun _ => ?_)
          have hti : top < m1.length := by omega
          have hi := hh.2.1
          have hsq := H3.seq 0 rfl (fun _ => rfl)
          refine join_in ?_
          refine hsq.getS top rfl (by omega) fun _ _ _ => ?_
          refine hsq.getS at_ rfl (by omega) fun _ _ _ => ?_
          refine H3.set C_ok 0 rfl (fun _ => rfl) rfl at_ rfl (by omega) (rs1[top]'(by omega)) rfl rfl rfl fun h5 H5 => ⟨trivial, ?_⟩
          refine H5.set C_ok 0 rfl (fun _ => rfl) rfl top rfl (by simp; omega) (rs1[at_]'(by omega)) rfl rfl rfl fun h6 H6 => ⟨trivial, ?_⟩
          have H6' : Sp h1 h6 (matA s ((rs1.set at_ (rs1[top]'(by omega))).set top (rs1[at_]'(by omega))) (swapB m1 top at_)) := by
            have := H6.swap2 (at_ + 1) (top + 1) (A := OwnA T_uint8 (rs1[at_]'(by omega)) 1 u8v m1[at_]) (A2 := OwnA T_uint8 (rs1[top]'(by omega)) 1 u8v m1[top]) (ownRows_get hlm1 at_ hi) (ownRows_get hlm1 top hti)
            show SpB _ h1 h6 (OwnA T_sl_uint8 s 1 slv _ :: ownRows T_uint8 1 u8v _ _)
            rw [swapB_comm, ← ownRows_swap hlm1 at_ top hi hti]
            exact this
          obtain ⟨rs2, hrs2⟩ : ∃ rs2, rs2 = (rs1.set at_ (rs1[top]'(by omega))).set top (rs1[at_]'(by omega)) := ⟨_, rfl⟩
          rw [← hrs2] at H6'
          have hl2 : rs2.length = m1.length := by rw [hrs2]; simp; omega
          obtain ⟨m2, hm2⟩ : ∃ m2, m2 = swapB m1 top at_ := ⟨_, rfl⟩
          have hev2 : evenB n m2 := by rw [hm2]; exact swap_even hev.1 hti hi
          have hlm2 : m2.length = m1.length := by rw [hm2]; exact swap_len' _ _ _
          rw [← hm2] at H6'
          have hlr2 : rs2.length = m2.length := by omega
          have htm2 : top < m2.length := by omega
          refine join_in ?_
          have gt := mat_row (a := s) hlr2 top htm2
          have lt : m2[top].length = n := hev2 _ (List.getElem_mem _)
          have hs4 := H6'.seq 0 rfl (fun _ => rfl)
          refine hs4.getS top rfl (by omega) fun a10 ha10 _ => ?_
          have hrow := H6'.seq (top + 1) gt (fun _ => rfl)
          refine hrow.get1 col rfl (by omega) _ rfl ?_
          refine hs4.getS top rfl (by omega) fun a14 ha14 _ => ?_
          refine (refInv_spec _ h6).mono ?_
          rintro v h7 ⟨rfl, rfl⟩
          refine ⟨_, rfl, ⟨ha14, ha10, trivial⟩, ?_⟩
          refine (refScale_spec _ _ _ h7 hrow (by omega)).mono ?_
          rintro v h8 ⟨r, rfl, R8⟩
          refine ⟨r, rfl, ⟨held_up ha10 R8.pres, trivial⟩, ?_⟩
          have H8 := H6'.comp R8
          dsimp only
          refine H8.set C_ok 0 rfl (fun _ => rfl) rfl top rfl (by omega) r rfl rfl rfl fun h9 H9 => ⟨trivial, ?_⟩
          have hrt : m2[top] = rowB m2 top := (row_lt htm2).symm
          have hct : (m2[top])[col]'(by omega) = colB (rowB m2 top) col := by rw [col_lt (by rw [row_lt htm2]; omega)]; simp only [row_lt htm2]
          have H9' : Sp h1 h9 (matA s (rs2.set top r) (normB top col m2)) := by
            have h8 : Sp h1 h9 ((OwnA T_sl_uint8 s 1 slv (rs2.set top r) :: ownRows T_uint8 1 u8v rs2 m2) ++ [OwnA T_uint8 r 1 u8v (scaleB (Gf.inv ((m2[top])[col]'(by omega))) m2[top])]) := H9
            have h9 := h8.swapIn (top + 1) (by simp [ownRows_len hlr2]; omega)
            rw [hct, hrt] at h9
            show SpB _ h1 _ (OwnA T_sl_uint8 s 1 slv _ :: ownRows T_uint8 1 u8v _ (m2.set top _))
            rw [← ownRows_set hlr2]
            exact h9
          obtain ⟨rs3, hrs3⟩ : ∃ rs3, rs3 = rs2.set top r := ⟨_, rfl⟩
          obtain ⟨m3, hm3⟩ : ∃ m3, m3 = normB top col m2 := ⟨_, rfl⟩
          rw [← hrs3, ← hm3] at H9'
          have hl3 : rs3.length = m1.length := by rw [hrs3]; simp; omega
          have hlm3 : m3.length = m1.length := by rw [hm3, norm_len]; omega
          have hev3 : evenB n m3 := by rw [hm3]; exact norm_even hev2 htm2
          have htm3 : top < m3.length := by omega
          have hsome : stepB (top, m1) col = (top + 1, elimB top col m3 m1.length) := by
            rw [stepB]; dsimp only; rw [hb, hm3, hm2]
          refine loop_inv (fun t : Nat × List Sl => (t.1 : Int)) (fun t h' => t.1 ≤ m3.length ∧ t.2.length = m3.length ∧ Sp h1 h' (matA s t.2 (elimB top col m3 t.1))) (fun t => m3.length - t.1) (0, rs3) rfl ⟨by simp, by dsimp only; omega, by rw [elim_zero]; exact H9'⟩ ?_
          rintro ⟨k, rs4⟩ h10 ⟨hk1, hl4, H10⟩
          dsimp only at *
          have hel := elim_len top col m3 k
          have hle : rs4.length = (elimB top col m3 k).length := by rw [hel]; exact hl4
          refine br_dec (fun e => ?_) (fun e => ?_)
          · have hk' : k < m3.length := by omega
            have hrk : rowB (elimB top col m3 k) k = rowB m3 k := by rw [elim_row hk', if_neg (by omega)]
            have e4 : (elimB top col m3 k)[k]'(by omega) = rowB m3 k := by rw [← hrk, row_lt]
            have gk := mat_row (a := s) hle k (by omega)
            rw [e4] at gk
            have lk := even_row hev3 hk'
            rw [wrap_small ((k : Int) + 1) (by omega) (by omega)]
            have skip : elimB top col m3 (k + 1) = elimB top col m3 k → ∃ t' : Nat × List Sl, (k : Int) + 1 = (t'.1 : Int) ∧ (t'.1 ≤ m3.length ∧ t'.2.length = m3.length ∧ Sp h1 h10 (matA s t'.2 (elimB top col m3 t'.1))) ∧ m3.length - t'.1 < m3.length - k := fun hsk =>
              ⟨(k + 1, rs4), rfl, ⟨by dsimp only; omega, hl4, by dsimp only; rw [hsk]; exact H10⟩, by dsimp only; omega⟩
            refine join_in ?_
            have hs1 := H10.seq 0 rfl (fun _ => rfl)
            have hrd := H10.seq (k + 1) gk (fun _ => rfl)
            have hcol : (rowB m3 k)[col]'(by omega) = colB (rowB m3 k) col := (col_lt (by omega)).symm
            refine br_ne (fun e2 => ?_) (fun e2 => br_f rfl (skip ?_))
            · have hkt : k ≠ top := fun hh => e2 (by rw [hh])
              refine hs1.getS k rfl (by omega) fun _ _ _ => ?_
              refine hrd.get1 col rfl (by omega) _ rfl ?_
              refine br_ne (fun e3 => ?_) (fun e3 => skip ?_)
              · have hrt : rowB (elimB top col m3 k) top = rowB m3 top := by rw [elim_row htm3, if_neg (by omega)]
                have e5 : (elimB top col m3 k)[top]'(by omega) = rowB m3 top := by rw [← hrt, row_lt]
                have gt := mat_row (a := s) hle top (by omega)
                rw [e5] at gt
                have lt := even_row hev3 htm3
                refine hs1.getS k rfl (by omega) fun a1 ha1 _ => ?_
                refine hrd.get1 col rfl (by omega) _ rfl ?_
                refine hs1.getS top rfl (by omega) fun _ _ _ => ?_
                refine hs1.getS k rfl (by omega) fun _ _ _ => ?_
                refine (refAxpy_spec _ _ _ (rowB m3 top) (rowB m3 k) h10 (H10.seq (top + 1) gt (fun _ => rfl)) hrd (by omega) (by omega)).mono ?_
                rintro v h11 ⟨w, rfl, R11⟩
                refine ⟨w, rfl, ⟨held_up ha1 R11.pres, trivial⟩, ?_⟩
                have H11 := H10.comp R11
                skip
                refine H11.set C_ok 0 rfl (fun _ => rfl) rfl k rfl (by omega) w rfl rfl rfl fun h12 H12 => ⟨trivial, ?_⟩
                refine ⟨(k + 1, rs4.set k w), rfl, ⟨by dsimp only; omega, by simp; omega, ?_⟩, by dsimp only; omega⟩
                dsimp only
                rw [elim_succ hk' hkt]
                have h13 : Sp h1 h12 ((OwnA T_sl_uint8 s 1 slv (rs4.set k w) :: ownRows T_uint8 1 u8v rs4 (elimB top col m3 k)) ++ [OwnA T_uint8 w 1 u8v (addB ((rowB m3 k)[col]'(by omega)) (rowB m3 top) (rowB m3 k))]) := H12
                have h14 := h13.swapIn (k + 1) (by simp [ownRows_len hle]; omega)
                rw [hcol] at h14
                show SpB _ h1 _ (OwnA T_sl_uint8 s 1 slv _ :: ownRows T_uint8 1 u8v _ ((elimB top col m3 k).set k _))
                rw [← ownRows_set hle]
                exact h14
              · have hz : colB (rowB m3 k) col = 0 := by rw [← hcol]; exact nat0.1 e3
                rw [elim_succ hk' hkt, hz, add_nought (by rw [even_row hev3 htm3, lk])]
                apply List.ext_getElem?
                intro j
                rw [List.getElem?_set]
                split
                · rename_i hkj
                  subst hkj
                  rw [if_pos (by omega), List.getElem?_eq_getElem (by omega), e4]
                · rfl
            · have hkt : k = top := by omega
              subst hkt
              exact elim_skip
          · have hke : k = m3.length := by omega
            subst hke
            refine ⟨(rs4, col + 1), ?_, ⟨by dsimp only; omega, by dsimp only; omega, ?_⟩, by dsimp only; omega⟩
            · dsimp only; rw [hstep, hsome, wrap_small _ (by omega) (by omega), wrap_small _ (by omega) (by omega)]; rfl
            · dsimp only; rw [hstep, hsome, ← hlm3]; exact H10
    · rintro d h3 ⟨rfl, R3⟩
      have htop := reduce_top m (widthB m)
      rw [(reduce_even hm _).2] at htop
      have hrk : rankB m = (reduceB m (widthB m)).1 := rfl
      exact ⟨⟨by omega, by omega⟩, ⟨s.ptr, rankB m, s.cap⟩, by simp, rfl, R3⟩
theorem refRank_spec (a : Sl) (m : Mat) (n : Nat) (h : Heap) (ha : Rd2 h a 1 u8v m) (hm : evenB n m) (hn : n ≤ 64) (hs : m.length ≤ 2 ^ 30) :
    Meets Tryz.prog wellspringref01_Rank_id #[.slice a.ptr a.len a.cap] h fun v h' => v = .int .i64 (rankB m) ∧ Sp h h' [] := by
  refine wellspringref01_Rank_run a ?_
  unfold wellspringref01_Rank_m
  refine (refReduce_spec a m n h ha hm hn hs).mono ?_
  rintro v h1 ⟨r, rfl, hr, R1⟩
  exact ⟨r, rfl, by rw [hr], R1⟩
end Go.Proofs.YtkcplnfomahleaaGreatDoor
