/- Part of the proofs that wellspringlaw30's laws answer true whatever the input reads, and leave it as it was; no condition. -/
import Derived.Test.YtmaknfkhibljfaaGreatTabS
import Derived.Test.YtmaknfkhibljfaaGreatHpA
import Derived.Test.YtmaknfkhibljfaaGreatPlA
import Derived.Test.YtmaknfkhibljfaaGreatKA
import Derived.Test.YtmaknfkhibljfaaGreatHsA
set_option linter.unusedVariables false
set_option linter.unusedSimpArgs false
namespace Go.Vc
open Go Wl
abbrev Cells := List (List UInt8)
abbrev powC (w : Pow) (l : Int) : List Value := [.bool w.off, .bool w.fuse.isSome, .int .i64 l, .int .i64 w.offs]
def PowOk (w : Pow) (l : Int) : Prop := ∀ k, w.fuse = some k → l = k ∧ k < 2 ^ 62
def PowA (t : Nat) (a : Addr) (w : Pow) : HP := HP.ex fun l : Int => (BoxA a t (powC w l)).and (PowOk w l)
section
variable {B : Blocks} {h0 h h' : Heap} {As : List HP} {t : Nat} {a : Addr} {w : Pow}
theorem SpB.powOpen (H : SpB B h0 h (PowA t a w :: As)) : ∃ l, PowOk w l ∧ SpB B h0 h (BoxA a t (powC w l) :: As) := by
  obtain ⟨l, H⟩ := H.open0
  obtain ⟨H, hl⟩ := H.and0
  exact ⟨l, hl, H⟩
theorem SpB.powClose {l : Int} (hl : PowOk w l) (H : SpB B h0 h (BoxA a t (powC w l) :: As)) : SpB B h0 h (PowA t a w :: As) :=
  (H.toand0 hl).close0 (F := fun l : Int => (BoxA a t (powC w l)).and (PowOk w l)) l
end
end Go.Vc
namespace Go.Proofs.YtmaknfkhibljfaaGreat
open Go Go.Vc Go.Proofs Wl
set_option maxRecDepth 100000
section
variable {B : Blocks} {h0 h h' : Heap} {As : List HP} {t : Nat} {a : Addr} {w : Pow}
theorem on_spec (l : Int) (hb : Box h a T_power_Power (powC w l)) : Meets Tryz.prog power_Power_On_id #[.pointer (some a)] h fun v h' => v = .bool (!w.off) ∧ h' = h := by
  refine power_Power_On_run (some a) ?_
  unfold power_Power_On_m
  exact br_b (fun _ => ⟨a, rfl, w.off, hb.cell0 rfl, rfl, rfl⟩) fun e => by cases e
theorem offs_spec (l : Int) (hb : Box h a T_power_Power (powC w l)) : Meets Tryz.prog power_Power_Offs_id #[.pointer (some a)] h fun v h' => v = .int .i64 w.offs ∧ h' = h := by
  refine power_Power_Offs_run (some a) ?_
  unfold power_Power_Offs_m
  exact br_b (fun e => by cases e) fun _ => ⟨a, rfl, w.offs, hb.cell rfl, rfl, rfl⟩
theorem pnew_spec (h : Heap) : Meets Tryz.prog power_New_id #[] h fun v h' => ∃ a, v = .pointer (some a) ∧ Sp h h' [PowA T_power_Power a Pow.new] := by
  refine power_New_run ?_
  unfold power_New_m
  refine (Sp.refl h).boxed fun a h1 H1 => ⟨a, rfl, SpB.powClose (l := 0) (w := Pow.new) (fun k e => by cases e) H1⟩
theorem arm_spec (n : Int) (hn : n < 2 ^ 62) (H : SpB B h0 h (PowA T_power_Power a w :: As)) : Meets Tryz.prog power_Power_Arm_id #[.pointer (some a), .int .i64 n] h fun v h' => v = .tuple #[] ∧ SpB B h0 h' (PowA T_power_Power a (w.arm n) :: As) := by
  obtain ⟨l, hl, H1⟩ := H.powOpen
  refine power_Power_Arm_run (some a) n ?_
  unfold power_Power_Arm_m
  refine (on_spec l (H1.box 0 rfl)).mono ?_
  rintro _ h1 ⟨rfl, rfl⟩
  refine ⟨_, rfl, br_not (fun e => ⟨rfl, ?_⟩) (fun e => ?_)⟩
  · have : w.arm n = w := by unfold Pow.arm; rw [if_pos (by simpa using e)]
    rw [this]; exact H
  · have ho : w.off = false := by simpa using e
    refine ⟨a, rfl, H1.store C_ok 0 rfl rfl 1 [.bool (decide (n ≥ 0))] rfl rfl rfl (by simp) fun h2 H2 => ?_⟩
    refine ⟨a, rfl, H2.store C_ok 0 rfl rfl 2 [.int .i64 (if (0 : Int) > n then 0 else n)] rfl rfl rfl (by simp [powC]) fun h3 H3 => ⟨rfl, ?_⟩⟩
    refine SpB.powClose (l := if (0 : Int) > n then 0 else n) (fun k hk => ?_) ?_
    · unfold Pow.arm at hk
      rw [if_neg (by simp [ho])] at hk
      by_cases hn0 : 0 ≤ n
      · rw [if_pos hn0] at hk; simp at hk; subst hk; rw [if_neg (by omega)]; omega
      · rw [if_neg hn0] at hk; cases hk
    · have e1 : powC (w.arm n) (if (0 : Int) > n then 0 else n) = [.bool w.off, .bool (decide (n ≥ 0)), .int .i64 (if (0 : Int) > n then 0 else n), .int .i64 w.offs] := by
        unfold Pow.arm powC
        rw [if_neg (by simp [ho])]
        by_cases hn0 : 0 ≤ n
        · rw [if_pos hn0]; simp [ho, hn0]
        · rw [if_neg hn0]; simp [ho]; omega
      rw [e1]; exact H3
theorem step_spec (H : SpB B h0 h (PowA T_power_Power a w :: As)) : Meets Tryz.prog power_Power_Step_id #[.pointer (some a)] h fun v h' => v = .bool w.step.1 ∧ SpB B h0 h' (PowA T_power_Power a w.step.2 :: As) := by
  obtain ⟨l, hl, H1⟩ := H.powOpen
  refine power_Power_Step_run (some a) ?_
  unfold power_Power_Step_m
  refine (on_spec l (H1.box 0 rfl)).mono ?_
  rintro _ h1 ⟨rfl, rfl⟩
  refine ⟨_, rfl, br_not (fun e => ?_) (fun e => ?_)⟩
  · have : w.step = (false, w) := by unfold Pow.step; rw [if_pos (by simpa using e)]
    rw [this]; exact ⟨rfl, H⟩
  have ho : w.off = false := by simpa using e
  refine ⟨a, rfl, _, (H1.box 0 rfl).cell rfl, br_not (fun e2 => ?_) (fun e2 => ?_)⟩
  · have : w.step = (true, w) := by
      unfold Pow.step; rw [if_neg (by simp [ho])]
      cases hf : w.fuse with
      | none => rfl
      | some k => rw [hf] at e2; cases e2
    rw [this]; exact ⟨rfl, H⟩
  obtain ⟨k, hf⟩ : ∃ k, w.fuse = some k := Option.isSome_iff_exists.1 e2
  obtain ⟨rfl, hk⟩ := hl k hf
  have ec : powC w (k : Int) = [.bool false, .bool true, .int .i64 k, .int .i64 w.offs] := by simp [powC, ho, hf]
  rw [ec] at H1
  refine ⟨a, rfl, _, (H1.box 0 rfl).cell rfl, br_eq (fun e3 => ?_) (fun e3 => ?_)⟩
  · have hk0 : k = 0 := by omega
    subst hk0
    have hs : w.step = (false, ⟨true, some 0, IntKind.wrap .i64 (w.offs + 1)⟩) := by unfold Pow.step; rw [if_neg (by simp [ho]), hf]
    rw [hs]
    refine ⟨a, rfl, H1.store0 C_ok 0 rfl rfl [.bool true] rfl rfl rfl (by simp) fun h2 H2 => ?_⟩
    refine ⟨a, rfl, w.offs, (H2.box 0 rfl).cell rfl, a, rfl, H2.store C_ok 0 rfl rfl 3 [.int .i64 (IntKind.wrap .i64 (w.offs + 1))] rfl rfl rfl (by simp [powC]) fun h3 H3 => ⟨rfl, ?_⟩⟩
    refine SpB.powClose (l := ((0 : Nat) : Int)) (fun k' hk' => by cases hk'; exact ⟨rfl, by decide⟩) ?_
    exact H3
  · obtain ⟨j, rfl⟩ : ∃ j, k = j + 1 := ⟨k - 1, by omega⟩
    have hs : w.step = (true, ⟨false, some j, w.offs⟩) := by unfold Pow.step; rw [if_neg (by simp [ho]), hf]
    rw [hs]
    refine ⟨a, rfl, _, (H1.box 0 rfl).cell rfl, a, rfl, H1.store C_ok 0 rfl rfl 2 [.int .i64 (IntKind.wrap .i64 (((j + 1 : Nat) : Int) - 1))] rfl rfl rfl (by simp [powC]) fun h3 H3 => ⟨rfl, ?_⟩⟩
    refine SpB.powClose (l := (j : Int)) (fun k' hk' => by cases hk'; exact ⟨rfl, by omega⟩) ?_
    rw [Go.Vc.wrap_small _ (by omega) (by omega)] at H3
    have e4 : ((j + 1 : Nat) : Int) - 1 = (j : Int) := by omega
    rw [e4] at H3
    exact H3
end
end Go.Proofs.YtmaknfkhibljfaaGreat
namespace Wl
structure DrvOk (d : Drv) : Prop where
  wait : d.wait ≤ d.l.length
  len : d.l.length ≤ d.room
  room : d.room ≤ 512
  cell : ∀ c ∈ d.l, c.length = 64
  laid : d.laid.length ≤ d.room
  cellL : ∀ c ∈ d.laid, c.length = 64
section
variable {d : Drv} {w : Pow} {b : List UInt8}
theorem DrvOk.new {n : Nat} (h : n ≤ 512) : DrvOk (Drv.new n) := ⟨Nat.le_refl _, Nat.zero_le _, h, by simp [Drv.new], Nat.zero_le _, by simp [Drv.new]⟩
theorem DrvOk.append (h : DrvOk d) : DrvOk (d.append w b).2.2 := by
  obtain ⟨h1, h2, h3, h4, h5, h6⟩ := h
  unfold Drv.append
  split
  · exact ⟨h1, h2, h3, h4, h5, h6⟩
  · rename_i hb
    split
    · exact ⟨h1, h2, h3, h4, h5, h6⟩
    · split
      · exact ⟨h1, h2, h3, h4, h5, h6⟩
      · rename_i hr
        split
        · exact ⟨h1, h2, h3, h4, h5, h6⟩
        · have hc : ∀ c ∈ d.l ++ [b], c.length = 64 := fun c hc => by
            rcases List.mem_append.1 hc with hc | hc
            · exact h4 c hc
            · rw [List.mem_singleton.1 hc]; omega
          split
          · exact ⟨by simp; omega, by simp; omega, h3, hc, Nat.zero_le _, by simp⟩
          · exact ⟨by simp; omega, by simp; omega, h3, hc, h5, h6⟩
theorem DrvOk.sync (h : DrvOk d) : DrvOk (d.sync w).2.2 := by
  obtain ⟨h1, h2, h3, h4, h5, h6⟩ := h
  unfold Drv.sync
  split
  · exact ⟨h1, h2, h3, h4, h5, h6⟩
  · split
    · exact ⟨Nat.zero_le _, h2, h3, h4, Nat.zero_le _, by simp⟩
    · exact ⟨h1, h2, h3, h4, h5, h6⟩
theorem DrvOk.rewrite {l : List (List UInt8)} (h : DrvOk d) : DrvOk (d.rewrite w l).2.2 := by
  obtain ⟨h1, h2, h3, h4, h5, h6⟩ := h
  unfold Drv.rewrite
  split
  · exact ⟨h1, h2, h3, h4, h5, h6⟩
  · rename_i hl
    have hl : ∀ c ∈ l, c.length = 64 := by simpa using hl
    split
    · exact ⟨h1, h2, h3, h4, h5, h6⟩
    · split
      · exact ⟨h1, h2, h3, h4, h5, h6⟩
      · split
        · exact ⟨h1, h2, h3, h4, h5, h6⟩
        · split
          · exact ⟨Nat.zero_le _, by dsimp only; omega, h3, hl, Nat.zero_le _, by simp⟩
          · exact ⟨h1, h2, h3, h4, by dsimp only; omega, hl⟩
end
end Wl
namespace Go.Vc
open Go Wl Go.Proofs.YtmaknfkhibljfaaGreat
abbrev RowsD (s : Sl) (l : Cells) : HP := RowsW T_sl_uint8 s T_uint8 1 u8v l
def DrvG (t : Nat) (f : Drv → Sl → Sl → List Value) (a : Addr) (d : Drv) : HP :=
  (HP.ex fun sb : Sl × Sl => (BoxA a t (f d sb.1 sb.2)).sep ((RowsD sb.1 d.l).sep (RowsD sb.2 d.laid))).and (DrvOk d)
section
variable {B : Blocks} {h0 h h' : Heap} {As : List HP} {t : Nat} {f : Drv → Sl → Sl → List Value} {a : Addr} {d : Drv}
theorem SpB.dOpen (H : SpB B h0 h (DrvG t f a d :: As)) : DrvOk d ∧ ∃ s b : Sl, SpB B h0 h (BoxA a t (f d s b) :: RowsD s d.l :: RowsD b d.laid :: As) := by
  obtain ⟨H, ok⟩ := H.and0
  obtain ⟨sb, H⟩ := H.open0
  exact ⟨ok, sb.1, sb.2, H.split0.split0.selT 3 [2, 1, 0]⟩
theorem SpB.dClose {s b : Sl} (ok : DrvOk d) (H : SpB B h0 h (BoxA a t (f d s b) :: RowsD s d.l :: RowsD b d.laid :: As)) : SpB B h0 h (DrvG t f a d :: As) :=
  ((((H.selT 3 [2, 1, 0]).join0).join0).close0 (F := fun sb : Sl × Sl => (BoxA a t (f d sb.1 sb.2)).sep ((RowsD sb.1 d.l).sep (RowsD sb.2 d.laid))) (s, b)).toand0 ok
end
end Go.Vc
namespace Go.Proofs.YtmaknfkhibljfaaGreat
open Go Go.Vc Go.Proofs Wl
set_option maxRecDepth 100000
abbrev drvC (pw : Addr) (d : Drv) (s b : Sl) : List Value := [.pointer (some pw), .int .i64 d.room, .slice s.ptr s.len s.cap, .int .i64 d.wait, .slice b.ptr b.len b.cap, .bool d.has, .bool d.lost]
abbrev DrvA (pw a : Addr) (d : Drv) : HP := DrvG T_drive_Drive (drvC pw) a d
section
variable {B : Blocks} {h0 h h' : Heap} {As : List HP} {a pw : Addr} {d : Drv} {w : Pow}
theorem dvnew_spec (n : Int) (pw : Addr) (h : Heap) : Meets Tryz.prog drive_New_id #[.int .i64 n, .pointer (some pw)] h fun v h' =>
    (1 ≤ n ∧ n ≤ 512 → ∃ a, v = .pointer (some a) ∧ Sp h h' [DrvA pw a (Drv.new n.toNat)]) ∧ (¬ (1 ≤ n ∧ n ≤ 512) → v = .pointer none ∧ Sp h h' []) := by
  refine drive_New_run n (some pw) ?_
  unfold drive_New_m
  refine join_in (br_dec (fun e => ⟨fun hh => absurd hh (by omega), fun _ => ⟨rfl, Sp.refl h⟩⟩) fun e1 => br_dec (fun e => ⟨fun hh => absurd hh (by omega), fun _ => ⟨rfl, Sp.refl h⟩⟩) fun e2 => br_b (fun e => by cases e) fun _ => ?_)
  refine (Sp.refl h).boxed fun a h1 H1 => ⟨fun _ => ⟨a, rfl, ?_⟩, fun hh => absurd (by omega) hh⟩
  refine SpB.dClose (s := ⟨none, 0, 0⟩) (b := ⟨none, 0, 0⟩) (DrvOk.new (by omega)) ?_
  have e : ((n.toNat : Nat) : Int) = n := by omega
  have H2 := ((H1.wNil T_sl_uint8 T_uint8 1 u8v).wNil T_sl_uint8 T_uint8 1 u8v).selT 3 [2, 1, 0]
  have e2 : drvC pw (Drv.new n.toNat) ⟨none, 0, 0⟩ ⟨none, 0, 0⟩ = [.pointer (some pw), .int .i64 n, .slice none 0 0, .int .i64 0, .slice none 0 0, .bool false, .bool false] := by
    simp only [drvC, Drv.new, e]; rfl
  rw [e2]; exact H2
theorem went_spec (s b : Sl) (d' : Drv) (H : SpB B h0 h (BoxA a T_drive_Drive (drvC pw d s b) :: RowsD s d.l :: RowsD b d.laid :: PowA T_power_Power pw w :: As)) (ok : DrvOk d) (hd : d' = { d with laid := [], has := false }) :
    Meets Tryz.prog drive_Drive_went_id #[.pointer (some a)] h fun v h' => v = .int .i64 0 ∧ SpB B h0 h' (DrvA pw a d' :: PowA T_power_Power pw w :: As) := by
  refine drive_Drive_went_run (some a) ?_
  unfold drive_Drive_went_m
  refine ⟨a, rfl, H.store C_ok 0 rfl rfl 4 [.slice none 0 0] rfl rfl rfl (by simp [drvC]) fun h2 H2 => ?_⟩
  refine ⟨a, rfl, H2.store C_ok 0 rfl rfl 5 [.bool false] rfl rfl rfl (by simp [drvC]) fun h3 H3 => ⟨rfl, ?_⟩⟩
  subst hd
  refine SpB.dClose (s := s) (b := ⟨none, 0, 0⟩) ⟨ok.wait, ok.len, ok.room, ok.cell, Nat.zero_le _, by simp⟩ ?_
  exact ((H3.wNil T_sl_uint8 T_uint8 1 u8v).selT 5 [1, 2, 0, 4])
theorem append_spec (x : Sl) (row : List UInt8) (H : SpB B h0 h (DrvA pw a d :: PowA T_power_Power pw w :: As)) (hx : Rd h x 1 u8v row) (hr : row.length ≤ 2 ^ 20) :
    Meets Tryz.prog drive_Drive_Append_id #[.pointer (some a), .slice x.ptr x.len x.cap] h fun v h' => v = .int .i64 (d.append w row).1 ∧ SpB B h0 h' (DrvA pw a (d.append w row).2.2 :: PowA T_power_Power pw (d.append w row).2.1 :: As) := by
  refine drive_Drive_Append_run (some a) x ?_
  unfold drive_Drive_Append_m
  have hxl := hx.len
  obtain ⟨ok, s, b, H1⟩ := H.dOpen
  have hb := H1.box 0 rfl
  obtain ⟨hsl, _⟩ := SpB.wLen (H1.selT 4 [1])
  have hroom := ok.room
  have hlen := ok.len
  have hwait := ok.wait
  have same : ∀ (e : Int), d.append w row = (e, w, d) → (Value.int .i64 e = .int .i64 (d.append w row).1 ∧ SpB B h0 h (DrvA pw a (d.append w row).2.2 :: PowA T_power_Power pw (d.append w row).2.1 :: As)) := fun e he => by
    rw [he]; exact ⟨rfl, H⟩
  refine join_in (br_ne (fun e => same 1 (by unfold Drv.append; rw [if_pos (by omega)])) fun e64 => ?_)
  have e64' : row.length = 64 := by omega
  refine join_in (br_b (fun e => by cases e) fun _ => ⟨a, rfl, d.lost, hb.cell rfl, br_b (fun e => same 5 ?_) fun elost => ?_⟩)
  · unfold Drv.append; rw [if_neg (by omega), if_pos e]
  refine ⟨a, rfl, s, hb.cell rfl, a, rfl, (d.room : Int), hb.cell rfl, br_dec (fun e => same 7 ?_) fun eroom => ?_⟩
  · unfold Drv.append; rw [if_neg (by omega), if_neg (by simp [elost]), if_pos (by omega)]
  obtain ⟨l, hl, H1p⟩ := (H1.selT 4 [3, 0, 1, 2]).powOpen
  refine ⟨a, rfl, some pw, hb.cell0 rfl, (on_spec l (H1p.box 0 rfl)).mono ?_⟩
  rintro _ h2 ⟨rfl, rfl⟩
  refine ⟨_, rfl, br_not (fun e => same 14 ?_) fun eoff => ?_⟩
  · unfold Drv.append; rw [if_neg (by omega), if_neg (by simp [elost]), if_neg (by omega), if_pos (by simpa using e)]
  have eoff' : w.off = false := by simpa using eoff
  refine join_in ⟨a, rfl, s, hb.cell rfl, (cloneB_spec x row h2 hx (by omega)).mono ?_⟩
  rintro _ h4 ⟨r, rfl, R4⟩
  have H4 := (H1.comp1 R4).selT 5 [2, 0, 1, 3, 4]
  have hb4 := H4.box 2 rfl
  refine ⟨r, rfl, ⟨hb4.cell rfl, trivial⟩, ?_⟩
  have H4b := H4
  refine H4.litHeld C_ok slv eSlU8 rfl [r] rfl (show 1 * 1 ≤ 2 ^ 20 by decide) rfl ⟨hb4.cell rfl, trivial⟩ ?_
  refine H4.wPush C_ok eSlU8 (by omega) fun s' h6 H6 => ⟨trivial, ?_⟩
  have H6 := H6.selT 4 [1, 0, 2, 3]
  refine ⟨a, rfl, H6.store C_ok 0 rfl rfl 2 [.slice s'.ptr s'.len s'.cap] rfl rfl rfl (by simp [drvC]) fun h7 H7 => ⟨trivial, ?_⟩⟩
  have hb7 := H7.box 0 rfl
  refine ⟨a, rfl, (d.wait : Int), hb7.cell rfl, a, rfl, ?_⟩
  rw [Go.Vc.wrap_small ((d.wait : Int) + 1) (by omega) (by omega)]
  refine H7.store C_ok 0 rfl rfl 3 [.int .i64 ((d.wait : Int) + 1)] rfl rfl rfl (by simp [drvC]) fun h8 H8 => ?_
  obtain ⟨d1, hd1⟩ : ∃ d1 : Drv, d1 = { d with l := d.l ++ [row], wait := d.wait + 1 } := ⟨_, rfl⟩
  have ok1 : DrvOk d1 := by
    subst hd1
    refine ⟨by simp; omega, by simp; omega, ok.room, fun c hc => ?_, ok.laid, ok.cellL⟩
    rcases List.mem_append.1 hc with hc | hc
    · exact ok.cell c hc
    · rw [List.mem_singleton.1 hc]; exact e64'
  have H8' : SpB B h0 h8 (BoxA a T_drive_Drive (drvC pw d1 s' b) :: RowsD s' d1.l :: RowsD b d1.laid :: PowA T_power_Power pw w :: As) := by rw [hd1]; exact H8
  refine ⟨a, rfl, some pw, (H8'.box 0 rfl).cell0 rfl, (step_spec (H8'.selT 4 [3, 0, 1, 2])).mono ?_⟩
  rintro _ h9 ⟨rfl, H9⟩
  have H9 := H9.selT 4 [1, 2, 3, 0]
  have eres : d.append w row = if w.step.1 then (0, w.step.2, { d1 with laid := [], has := false }) else (14, w.step.2, d1) := by
    rw [hd1]; unfold Drv.append; rw [if_neg (by omega), if_neg (by simp [elost]), if_neg (by omega), if_neg (by simp [eoff'])]
  rw [eres]
  refine ⟨_, rfl, br_not (fun e => ?_) (fun e => ?_)⟩
  · rw [e]; exact ⟨rfl, H9.dClose ok1⟩
  · rw [e]
    refine (went_spec s' b _ H9 ok1 rfl).mono ?_
    rintro _ h10 ⟨rfl, H10⟩
    exact ⟨0, rfl, rfl, H10⟩
theorem appendNil_spec (x : Sl) (row : List UInt8) (h : Heap) (hx : Rd h x 1 u8v row) : Meets Tryz.prog drive_Drive_Append_id #[.pointer none, .slice x.ptr x.len x.cap] h fun v h' => v = .int .i64 (if row.length ≠ 64 then 1 else 5) ∧ h' = h := by
  refine drive_Drive_Append_run none x ?_
  unfold drive_Drive_Append_m
  have hxl := hx.len
  refine join_in (br_ne (fun e => ⟨by rw [if_pos (by omega)], rfl⟩) fun e => ?_)
  exact join_in (br_b (fun _ => ⟨by rw [if_neg (by omega)], rfl⟩) fun e => by cases e)
theorem sync_spec (H : SpB B h0 h (DrvA pw a d :: PowA T_power_Power pw w :: As)) :
    Meets Tryz.prog drive_Drive_Sync_id #[.pointer (some a)] h fun v h' => v = .int .i64 (d.sync w).1 ∧ SpB B h0 h' (DrvA pw a (d.sync w).2.2 :: PowA T_power_Power pw (d.sync w).2.1 :: As) := by
  refine drive_Drive_Sync_run (some a) ?_
  unfold drive_Drive_Sync_m
  obtain ⟨ok, s, b, H1⟩ := H.dOpen
  have hb := H1.box 0 rfl
  refine join_in (br_b (fun e => by cases e) fun _ => ⟨a, rfl, d.lost, hb.cell rfl, br_b (fun e => ?_) fun elost => ?_⟩)
  · have : d.sync w = (5, w, d) := by unfold Drv.sync; rw [if_pos e]
    rw [this]; exact ⟨rfl, H⟩
  refine ⟨a, rfl, some pw, hb.cell0 rfl, (step_spec (H1.selT 4 [3, 0, 1, 2])).mono ?_⟩
  rintro _ h2 ⟨rfl, H2⟩
  have H2 := H2.selT 4 [1, 2, 3, 0]
  have eres : d.sync w = if w.step.1 then (0, w.step.2, { { d with wait := 0 } with laid := [], has := false }) else (14, w.step.2, d) := by
    unfold Drv.sync; rw [if_neg (by simp [elost])]
  rw [eres]
  refine ⟨_, rfl, br_not (fun e => ?_) (fun e => ?_)⟩
  · rw [e]; exact ⟨rfl, H2.dClose ok⟩
  · rw [e]
    refine ⟨a, rfl, H2.store C_ok 0 rfl rfl 3 [.int .i64 0] rfl rfl rfl (by simp [drvC]) fun h3 H3 => ?_⟩
    refine (went_spec (d := { d with wait := 0 }) s b _ H3 ⟨Nat.zero_le _, ok.len, ok.room, ok.cell, ok.laid, ok.cellL⟩ rfl).mono ?_
    rintro _ h4 ⟨rfl, H4⟩
    exact ⟨0, rfl, rfl, H4⟩
theorem syncNil_spec (h : Heap) : Meets Tryz.prog drive_Drive_Sync_id #[.pointer none] h fun v h' => v = .int .i64 5 ∧ h' = h := by
  refine drive_Drive_Sync_run none ?_
  unfold drive_Drive_Sync_m
  exact join_in (br_b (fun _ => ⟨rfl, rfl⟩) fun e => by cases e)
theorem DrvA.box (H : SpB B h0 h (DrvA pw a d :: As)) : ∃ s b : Sl, Box h a T_drive_Drive (drvC pw d s b) ∧ Rd2 h s 1 u8v d.l ∧ s.len = d.l.length := by
  obtain ⟨ok, s, b, H1⟩ := H.dOpen
  exact ⟨s, b, H1.box 0 rfl, (H1.selT 3 [1]).wRd fun _ => rfl, (SpB.wLen (H1.selT 3 [1])).1⟩
theorem room_spec (s b : Sl) (hb : Box h a T_drive_Drive (drvC pw d s b)) : Meets Tryz.prog drive_Drive_Room_id #[.pointer (some a)] h fun v h' => v = .int .i64 d.room ∧ h' = h := by
  refine drive_Drive_Room_run (some a) ?_
  unfold drive_Drive_Room_m
  exact br_b (fun e => by cases e) fun _ => ⟨a, rfl, _, hb.cell rfl, rfl, rfl⟩
theorem dlen_spec (s b : Sl) (hb : Box h a T_drive_Drive (drvC pw d s b)) (hs : s.len = d.l.length) : Meets Tryz.prog drive_Drive_Len_id #[.pointer (some a)] h fun v h' => v = .int .i64 (d.l.length : Int) ∧ h' = h := by
  refine drive_Drive_Len_run (some a) ?_
  unfold drive_Drive_Len_m
  exact br_b (fun e => by cases e) fun _ => ⟨a, rfl, _, hb.cell rfl, by rw [hs], rfl⟩
theorem pend_spec (s b : Sl) (hb : Box h a T_drive_Drive (drvC pw d s b)) : Meets Tryz.prog drive_Drive_Pending_id #[.pointer (some a)] h fun v h' => v = .int .i64 d.wait ∧ h' = h := by
  refine drive_Drive_Pending_run (some a) ?_
  unfold drive_Drive_Pending_m
  exact br_b (fun e => by cases e) fun _ => ⟨a, rfl, _, hb.cell rfl, rfl, rfl⟩
theorem lost_spec (s b : Sl) (hb : Box h a T_drive_Drive (drvC pw d s b)) : Meets Tryz.prog drive_Drive_Lost_id #[.pointer (some a)] h fun v h' => v = .bool d.lost ∧ h' = h := by
  refine drive_Drive_Lost_run (some a) ?_
  unfold drive_Drive_Lost_m
  exact br_b (fun _ => ⟨a, rfl, _, hb.cell rfl, rfl, rfl⟩) fun e => by cases e
theorem read_spec (s b : Sl) (i : Int) (hb : Box h a T_drive_Drive (drvC pw d s b)) (hl : Rd2 h s 1 u8v d.l) (hc : ∀ c ∈ d.l, c.length = 64) : Meets Tryz.prog drive_Drive_Read_id #[.pointer (some a), .int .i64 i] h fun v h' => ∃ r : Sl, v = .slice r.ptr r.len r.cap ∧ Sp h h' [OwnA T_uint8 r 1 u8v (if 0 ≤ i then d.l.getD i.toNat [] else [])] := by
  refine drive_Drive_Read_run (some a) i ?_
  unfold drive_Drive_Read_m
  have hsl := hl.len
  have none_ : (if 0 ≤ i then d.l.getD i.toNat [] else []) = [] → ∃ r : Sl, Value.slice none 0 0 = .slice r.ptr r.len r.cap ∧ Sp h h [OwnA T_uint8 r 1 u8v (if 0 ≤ i then d.l.getD i.toNat [] else [])] := fun e => by
    rw [e]; exact ⟨⟨none, 0, 0⟩, rfl, (Sp.refl h).nil T_uint8 1 u8v⟩
  refine join_in (br_b (fun e => by cases e) fun _ => br_dec (fun e => none_ (by rw [if_neg (by omega)])) fun e1 => ⟨a, rfl, s, hb.cell rfl, br_dec (fun e => none_ ?_) fun e2 => ?_⟩)
  · rw [if_pos (by omega), List.getD_eq_getElem?_getD, List.getElem?_eq_none (by omega)]; rfl
  · refine ⟨a, rfl, s, hb.cell rfl, hl.get i.toNat (by omega) (by omega) fun r hr => ?_⟩
    have hlt : i.toNat < d.l.length := by omega
    have := hc _ (List.getElem_mem hlt)
    refine (cloneB_spec r _ h hr (by omega)).mono ?_
    rintro _ h1 ⟨r1, rfl, R1⟩
    rw [if_pos (by omega), getD_lt hlt]
    exact ⟨r1, rfl, r1, rfl, R1⟩
theorem own_spec (l : Sl) (ll : Cells) (h : Heap) (hl : Rd2 h l 1 u8v ll) (hn : ll.length ≤ 2 ^ 20) (hc : ∀ c ∈ ll, c.length ≤ 2 ^ 20) : Meets Tryz.prog drive_own_id #[.slice l.ptr l.len l.cap] h fun v h' => ∃ r : Sl, v = .slice r.ptr r.len r.cap ∧ Sp h h' [RowsD r ll] := by
  refine drive_own_run l ?_
  unfold drive_own_m
  have hll := hl.len
  refine loop_inv (fun t : Sl × Nat => (t.1, (t.2 : Int))) (fun t h' => t.2 ≤ ll.length ∧ Sp h h' [RowsD t.1 (ll.take t.2)]) (fun t => ll.length - t.2) (⟨none, 0, 0⟩, 0) rfl ⟨by simp, by simpa using (Sp.refl h).wNil T_sl_uint8 T_uint8 1 u8v⟩ ?_
  rintro ⟨s, i⟩ h1 ⟨hi, H1⟩
  dsimp only at *
  refine br_dec (fun e => ?_) (fun e => ?_)
  · have hi' : i < ll.length := by omega
    refine (hl.up H1.pres).get i rfl hi' fun r hr => ?_
    have := hc _ (List.getElem_mem hi')
    refine (cloneB_spec r _ h1 hr (by omega)).mono ?_
    rintro _ h2 ⟨r2, rfl, R2⟩
    refine ⟨r2, rfl, ?_⟩
    refine SpB.wPush C_ok (H1.comp R2) eSlU8 (by simp; omega) fun s' h3 H3 => ?_
    refine ⟨(s', i + 1), by dsimp only; rw [Go.Vc.wrap_small _ (by omega) (by omega)]; rfl, ⟨by dsimp only; omega, ?_⟩, by dsimp only; omega⟩
    dsimp only
    rw [take_snoc _ _ hi']; exact H3
  · rw [List.take_of_length_le (by omega)] at H1
    exact ⟨s, rfl, H1⟩
theorem all_spec (s b : Sl) (hb : Box h a T_drive_Drive (drvC pw d s b)) (hl : Rd2 h s 1 u8v d.l) (ok : DrvOk d) : Meets Tryz.prog drive_Drive_All_id #[.pointer (some a)] h fun v h' => ∃ r : Sl, v = .slice r.ptr r.len r.cap ∧ Sp h h' [RowsD r d.l] := by
  refine drive_Drive_All_run (some a) ?_
  unfold drive_Drive_All_m
  have := ok.len; have := ok.room
  refine br_b (fun e => by cases e) fun _ => ⟨a, rfl, s, hb.cell rfl, (own_spec s d.l h hl (by omega) fun c hc => by rw [ok.cell c hc]; decide).mono ?_⟩
  rintro _ h1 ⟨r, rfl, R1⟩
  exact ⟨r, rfl, r, rfl, R1⟩
end
end Go.Proofs.YtmaknfkhibljfaaGreat
namespace Go.Proofs.YtmaknfkhibljfaaGreat
open Go Go.Vc Go.Proofs Wl
set_option maxRecDepth 100000
theorem crc_spec (b : Sl) (l : List UInt8) (h : Heap) (hb : Rd h b 1 u8v l) (hs : l.length ≤ 2 ^ 40) : Meets Tryz.prog crc_Sum_id #[.slice b.ptr b.len b.cap] h fun v h' => v = .int .u32 (crcAll l).toNat ∧ h' = h := by
  refine crc_Sum_run b ?_
  unfold crc_Sum_m
  have hl := hb.len
  refine loop_inv (fun t : Nat => (((crcGo (l.take t)).toNat : Int), (t : Int))) (fun t h' => t ≤ l.length ∧ h' = h) (fun t => l.length - t) 0 rfl ⟨by omega, rfl⟩ ?_
  rintro i h1 ⟨hi, rfl⟩
  refine br_dec (fun e => ?_) (fun e => ?_)
  · have hi' : i < l.length := by
      have e' : (i : Int) < (b.len : Int) := e
      omega
    refine hb.get1 i rfl hi' (l[i].toNat : Int) rfl ?_
    have e1 : IntKind.wrap .u32 (l[i].toNat : Int) = ((BitVec.ofNat 32 l[i].toNat).toNat : Int) := by rw [w32_wrapI, BitVec.ofInt_natCast]
    rw [e1, xor32]
    refine loop_inv (fun k : Nat => (((crcBits k (crcGo (l.take i) ^^^ BitVec.ofNat 32 l[i].toNat)).toNat : Int), (k : Int))) (fun k h' => k ≤ 8 ∧ h' = h1) (fun k => 8 - k) 0 rfl ⟨by omega, rfl⟩ ?_
    rintro k h2 ⟨hk, rfl⟩
    obtain ⟨c, hc⟩ : ∃ c, c = crcBits k (crcGo (l.take i) ^^^ BitVec.ofNat 32 l[i].toNat) := ⟨_, rfl⟩
    dsimp only
    rw [← hc]
    refine br_dec (fun e2 => ⟨by decide, ?_⟩) (fun e2 => ?_)
    · have hstep : ∀ n : W32, n = crcBit c → ∃ t' : Nat, (((n.toNat : Nat) : Int), IntKind.wrap .i64 ((k : Int) + 1)) = (((crcBits t' (crcGo (l.take i) ^^^ BitVec.ofNat 32 l[i].toNat)).toNat : Int), (t' : Int)) ∧ (t' ≤ 8 ∧ h2 = h2) ∧ 8 - t' < 8 - k := fun n hn =>
        ⟨k + 1, by rw [Go.Vc.wrap_small _ (by omega) (by omega), hn, hc]; rfl, ⟨by omega, rfl⟩, by omega⟩
      have e3 : IntKind.wrap .u32 ((BitVec.ofInt (IntKind.bits .u32) (c.toNat : Int) &&& BitVec.ofInt (IntKind.bits .u32) (1 : Int)).toNat : Nat) = ((c &&& 1#32).toNat : Int) := and32 c 1#32
      have e4 : IntKind.wrap .u32 ((BitVec.ofInt (IntKind.bits .u32) ((c >>> 1).toNat : Int) ^^^ BitVec.ofInt (IntKind.bits .u32) (3988292384 : Int)).toNat : Nat) = (((c >>> 1) ^^^ 3988292384#32).toNat : Int) := xor32 (c >>> 1) 3988292384#32
      rw [e3, w32_shr, e4]
      refine br_eq (fun e5 => hstep _ ?_) (fun e5 => hstep _ ?_)
      · unfold crcBit; rw [if_pos ((w32_low c).1 e5)]
      · unfold crcBit; rw [if_neg (fun hh => e5 ((w32_low c).2 hh))]
    · have hk8 : k = 8 := by omega
      subst hk8
      refine ⟨i + 1, ?_, ⟨by omega, rfl⟩, by omega⟩
      rw [Go.Vc.wrap_small _ (by omega) (by omega), take_snoc _ _ hi', crcGo_snoc, hc]; rfl
  · have hie : i = l.length := by
      have e' : ¬ (i : Int) < (b.len : Int) := e
      omega
    subst hie
    refine ⟨?_, rfl⟩
    rw [List.take_length]
    exact congrArg (Value.int .u32) (xor32 4294967295#32 (crcGo l))
theorem cput_spec (kind : Int) (body : Sl) (l : List UInt8) (h : Heap) (hb : Rd h body 1 u8v l) (hs : l.length ≤ 2 ^ 40) : Meets Tryz.prog cell_Put_id #[.int .i64 kind, .slice body.ptr body.len body.cap] h fun v h' => ∃ r : Sl, v = .slice r.ptr r.len r.cap ∧ Sp h h' [OwnA T_uint8 r 1 u8v (putCell kind l)] := by
  refine cell_Put_run kind body ?_
  unfold cell_Put_m
  have hl := hb.len
  have bad : ¬ (1 ≤ kind ∧ kind ≤ 255 ∧ l.length ≤ 55) → ∃ r : Sl, Value.slice none 0 0 = .slice r.ptr r.len r.cap ∧ Sp h h [OwnA T_uint8 r 1 u8v (putCell kind l)] := fun e => by
    unfold putCell; rw [if_neg e]; exact ⟨⟨none, 0, 0⟩, rfl, (Sp.refl h).nil T_uint8 1 u8v⟩
  refine join_in (br_dec (fun e => bad (by omega)) fun e1 => br_dec (fun e => bad (by omega)) fun e2 => br_dec (fun e => bad (by omega)) fun e3 => ?_)
  refine (Sp.refl h).make C_ok u8v eU8 (by decide) 0 rfl rfl 64 64 rfl rfl (Nat.le_refl _) (by decide) fun o h2 hol hoc H2 => ?_
  rw [b8_wrap]
  refine H2.lit C_ok u8v eU8 rfl [87, 115, 1, b8 kind] rfl (show 4 * 1 ≤ 2 ^ 20 by decide) rfl fun v3 h3 H3 => ?_
  refine H3.copyTo C_ok 0 rfl eU8 (fun _ => rfl) (H3.seq 1 rfl fun _ => rfl) one_u8 fun _ h4 H4 => ⟨⟨by decide, by rw [hol]; decide⟩, ?_⟩
  have H4 : Sp h h4 [OwnA T_uint8 o 1 u8v ([87, 115, 1, b8 kind] ++ List.replicate 60 0)] := by
    have := H4.sel [0]
    simpa using this
  refine H4.copyAt C_ok 0 rfl eU8 (fun _ => rfl) (Seq.up hb H4.pres) one_u8 4 (by simp) rfl rfl fun _ h5 H5 => ⟨⟨by decide, by rw [hoc]; decide⟩, ?_⟩
  have eH : ([87, 115, 1, b8 kind] ++ List.replicate 60 0).take 4 ++ (l.take (([87, 115, 1, b8 kind] ++ List.replicate 60 (0 : UInt8)).length - 4) ++ ([87, 115, 1, b8 kind] ++ List.replicate 60 0).drop (4 + l.length)) = cellHead kind l ++ List.replicate 5 0 := by
    have h1 : ([87, 115, 1, b8 kind] ++ List.replicate 60 (0 : UInt8)).length = 64 := by simp
    rw [h1, List.take_of_length_le (l := l) (by omega), ← List.drop_drop]
    have h2 : ([87, 115, 1, b8 kind] ++ List.replicate 60 (0 : UInt8)).drop 4 = List.replicate 60 0 := rfl
    have h3 : ([87, 115, 1, b8 kind] ++ List.replicate 60 (0 : UInt8)).take 4 = [87, 115, 1, b8 kind] := rfl
    rw [h2, h3, List.drop_replicate]
    unfold cellHead
    have h4 : List.replicate (60 - l.length) (0 : UInt8) = List.replicate (55 - l.length) 0 ++ List.replicate 5 0 := by rw [List.replicate_append_replicate]; congr 1; omega
    rw [h4]; simp [List.append_assoc]
  rw [eH] at H5
  have hcl : (cellHead kind l).length = 59 := cellHead_len (by omega)
  have hr : Rd h5 ⟨o.ptr, 59, o.cap⟩ 1 u8v (cellHead kind l) := by
    have := (H5.seq 0 rfl fun _ => rfl).take 59 (by simp [hcl])
    rw [List.take_append_of_le_length (by omega), List.take_of_length_le (by omega)] at this
    exact this
  refine (crc_spec ⟨o.ptr, 59, o.cap⟩ (cellHead kind l) h5 hr (by omega)).mono ?_
  rintro _ h6 ⟨rfl, rfl⟩
  obtain ⟨c, hc⟩ : ∃ c, c = crcAll (cellHead kind l) := ⟨_, rfl⟩
  rw [← hc]
  refine ⟨_, rfl, ?_⟩
  refine loop_inv (fun i : Nat => (i : Int)) (fun i h' => i ≤ 4 ∧ Sp h h' [OwnA T_uint8 o 1 u8v (cellHead kind l ++ ((low4 c).take i ++ List.replicate (5 - i) 0))]) (fun i => 4 - i) 0 rfl ⟨by omega, by simpa using H5⟩ ?_
  rintro i h7 ⟨hi, H7⟩
  have hl4 := low4_len c
  refine br_dec (fun e => ?_) (fun e => ?_)
  · have hi' : i < 4 := by
      have e' : (i : Int) < 4 := e
      omega
    rw [Go.Vc.wrap_small ((8 : Int) * i) (by omega) (by omega), Go.Vc.wrap_small ((59 : Int) + i) (by omega) (by omega)]
    refine ⟨by omega, ?_⟩
    have e8 : ((8 : Int) * (i : Int)).toNat = 8 * i := by omega
    have e9 : min (8 * i) (IntKind.bits .u32) = 8 * i := by
      have : IntKind.bits .u32 = 32 := rfl
      omega
    rw [e8, e9, b8_wrap]
    have hg : b8 (Int.fdiv (c.toNat : Int) (2 ^ (8 * i))) = (low4 c)[i]'(by omega) := by simp [low4]
    rw [hg]
    refine H7.set C_ok 0 rfl (fun _ => rfl) rfl (59 + i) (by omega) (by simp [hcl]; omega) ((low4 c)[i]'(by omega)) rfl rfl rfl fun h8 H8 => ?_
    refine ⟨i + 1, by rw [Go.Vc.wrap_small _ (by omega) (by omega)]; rfl, ⟨by omega, ?_⟩, by omega⟩
    have e10 : (cellHead kind l ++ ((low4 c).take i ++ List.replicate (5 - i) 0)).set (59 + i) ((low4 c)[i]'(by omega)) = cellHead kind l ++ ((low4 c).take (i + 1) ++ List.replicate (5 - (i + 1)) 0) := by
      rw [List.set_append_right _ _ (by omega), hcl, Nat.add_sub_cancel_left, List.set_append_right _ _ (by simp; omega), take_snoc _ _ (by omega)]
      have : 5 - i = (5 - (i + 1)) + 1 := by omega
      rw [this, List.replicate_succ]
      simp [hl4, Nat.min_eq_left (show i ≤ 4 by omega)]
      rw [take_snoc _ _ (show i < (low4 c).length by omega), List.append_assoc]; rfl
    rw [e10] at H8
    exact H8
  · have hie : i = 4 := by
      have e' : ¬ (i : Int) < 4 := e
      omega
    subst hie
    refine H7.set C_ok 0 rfl (fun _ => rfl) rfl 63 rfl (by simp [hcl, hl4]) 165 rfl rfl rfl fun h8 H8 => ⟨o, rfl, ?_⟩
    have e11 : (cellHead kind l ++ ((low4 c).take 4 ++ List.replicate (5 - 4) 0)).set 63 165 = putCell kind l := by
      unfold putCell
      rw [if_pos ⟨by omega, by omega, by omega⟩, ← hc, List.take_of_length_le (by omega), List.set_append_right _ _ (by omega), hcl, List.set_append_right _ _ (by simp [hl4])]
      simp [hl4]
    rw [e11] at H8
    exact H8
end Go.Proofs.YtmaknfkhibljfaaGreat
namespace Go.Vc
open Go Wl
abbrev EntH := ByteArray × Int × Int × Sl
abbrev ManV := Int × Int × Int × Int × Int × Int × Sl × Sl
abbrev entv (x : EntH) : List Value := [.string x.1, .int .i64 x.2.1, .int .i64 x.2.2.1, .slice x.2.2.2.ptr x.2.2.2.len x.2.2.2.cap]
abbrev manL (x : ManV) : List Value := [.int .i64 x.1, .int .i64 x.2.1, .int .i64 x.2.2.1, .int .i64 x.2.2.2.1, .int .i64 x.2.2.2.2.1, .int .i64 x.2.2.2.2.2.1, .slice x.2.2.2.2.2.2.1.ptr x.2.2.2.2.2.2.1.len x.2.2.2.2.2.2.1.cap, .slice x.2.2.2.2.2.2.2.ptr x.2.2.2.2.2.2.2.len x.2.2.2.2.2.2.2.cap]
abbrev manv (x : ManV) : Value := .agg #[.int .i64 x.1, .int .i64 x.2.1, .int .i64 x.2.2.1, .int .i64 x.2.2.2.1, .int .i64 x.2.2.2.2.1, .int .i64 x.2.2.2.2.2.1, .slice x.2.2.2.2.2.2.1.ptr x.2.2.2.2.2.2.1.len x.2.2.2.2.2.2.1.cap, .slice x.2.2.2.2.2.2.2.ptr x.2.2.2.2.2.2.2.len x.2.2.2.2.2.2.2.cap]
def EltEnt : Elt EntH Wl.Ent := ⟨fun h q a b => (a.1 = b.name ∧ a.2.1 = b.object ∧ a.2.2.1 = b.length) ∧ Seq h q a.2.2.2 1 intv b.tries, fun a hp => ⟨a.1, a.2.pres hp⟩, fun a hq => ⟨a.1, a.2.mono hq⟩⟩
abbrev EltEnts : Elt Sl (List Wl.Ent) := EltL EltEnt 4 entv
structure ManIs (h : Heap) (q : Blocks) (x : ManV) (m : Mani) : Prop where
  seq : x.1 = m.seq
  next : x.2.1 = m.next
  p : (x.2.2.1, x.2.2.2.1, x.2.2.2.2.1) = m.p
  extra : x.2.2.2.2.2.1 = m.extra
  drives : Seq h q x.2.2.2.2.2.2.1 1 intv m.drives
  objs : EltEnts.p h q x.2.2.2.2.2.2.2 m.objs
  dcap : x.2.2.2.2.2.2.1.len ≤ x.2.2.2.2.2.2.1.cap
  ocap : x.2.2.2.2.2.2.2.len ≤ x.2.2.2.2.2.2.2.cap
abbrev RdM (h : Heap) (x : ManV) (m : Mani) : Prop := ManIs h (fun b => b < h.size) x m
theorem ManIs.pres {h h' : Heap} {q : Blocks} {x : ManV} {m : Mani} (a : ManIs h q x m) (hp : Pres q h h') : ManIs h' q x m := ⟨a.seq, a.next, a.p, a.extra, a.drives.pres hp, EltEnts.loc a.objs hp, a.dcap, a.ocap⟩
theorem ManIs.mono {h : Heap} {q q' : Blocks} {x : ManV} {m : Mani} (a : ManIs h q x m) (hq : ∀ b, q b → q' b) : ManIs h q' x m := ⟨a.seq, a.next, a.p, a.extra, a.drives.mono hq, EltEnts.mono a.objs hq, a.dcap, a.ocap⟩
theorem RdM.up {h h' : Heap} {x : ManV} {m : Mani} (a : RdM h x m) (hp : Pres (fun b => b < h.size) h h') : RdM h' x m := (ManIs.pres a hp).mono fun _ hb => Nat.lt_of_lt_of_le hb hp.1
def ManA (x : ManV) (m : Mani) : HP := ⟨fun h q => ManIs h q x m, fun a hp => a.pres hp, fun a hq => a.mono hq⟩
theorem one_ent : ∀ x, ∀ c ∈ entv x, c.oneCell' = true := by intro x c hc; simp [entv] at hc; rcases hc with rfl | rfl | rfl | rfl <;> rfl
end Go.Vc
namespace Go.Proofs.YtmaknfkhibljfaaGreat
open Go Go.Vc Go.Proofs Wl
set_option maxRecDepth 100000
theorem in_spec (n a b : Int) (h : Heap) : Meets Tryz.prog mani_within_id #[.int .i64 n, .int .i64 a, .int .i64 b] h fun v h' => v = .bool (inB n a b) ∧ h' = h := by
  refine mani_within_run n a b ?_
  unfold mani_within_m inB
  refine br_dec (fun e => ⟨?_, rfl⟩) (fun e => ⟨?_, rfl⟩)
  · rw [decide_eq_true (show a ≤ n from e)]; rfl
  · rw [decide_eq_false (show ¬ a ≤ n from e)]; rfl
theorem name_spec (s : ByteArray) (h : Heap) (hs : s.size ≤ 2 ^ 40) : Meets Tryz.prog mani_Name_id #[.string s] h fun v h' => v = .bool (nameB s) ∧ Sp h h' [] := by
  refine mani_Name_run s ?_
  unfold mani_Name_m
  refine run_s2b C_ok ⟨_, rfl, rfl⟩ ⟨_, rfl, rfl⟩ ⟨_, rfl, rfl⟩ s fun r h1 H1 => ?_
  have hr := H1.rd 0 rfl
  have hrl := hr.len
  have hsl := strB_len s
  refine loop_inv (fun i : Nat => (i : Int)) (fun i h' => i ≤ s.size ∧ h' = h1 ∧ ∀ c ∈ (strB s).take i, nameCh c = true) (fun i => s.size - i) 0 rfl ⟨by omega, rfl, by simp⟩ ?_
  rintro i h2 ⟨hi, rfl, hall⟩
  refine br_dec (fun e => ?_) (fun e => ?_)
  · have hi' : i < (strB s).length := by
      have e' : (i : Int) < (r.len : Int) := e
      omega
    refine hr.get1 i rfl hi' ((strB s)[i].toNat : Int) rfl ?_
    obtain ⟨c, hc⟩ : ∃ c, c = (strB s)[i] := ⟨_, rfl⟩
    rw [← hc]
    have good : nameCh c = true → ∃ t' : Nat, IntKind.wrap .i64 ((i : Int) + 1) = (t' : Int) ∧ (t' ≤ s.size ∧ h2 = h2 ∧ ∀ c ∈ (strB s).take t', nameCh c = true) ∧ s.size - t' < s.size - i := fun hg =>
      ⟨i + 1, by rw [Go.Vc.wrap_small _ (by omega) (by omega)]; rfl, ⟨by omega, rfl, fun x hx => by
        rw [take_snoc _ _ hi'] at hx
        rcases List.mem_append.1 hx with hx | hx
        · exact hall x hx
        · rw [List.mem_singleton.1 hx, ← hc]; exact hg⟩, by omega⟩
    have bad : nameCh c = false → Value.bool false = .bool (nameB s) ∧ Sp h h2 [] := fun hg => by
      refine ⟨?_, H1.sel []⟩
      unfold nameB
      have : s.data.toList.all nameCh = false := List.all_eq_false.2 ⟨c, by rw [hc]; exact List.getElem_mem hi', by rw [hg]; simp⟩
      rw [this]; rfl
    have hch : nameCh c = true ↔ ((97 ≤ (c.toNat : Int) ∧ (c.toNat : Int) ≤ 122) ∨ (48 ≤ (c.toNat : Int) ∧ (c.toNat : Int) ≤ 57) ∨ (c.toNat : Int) = 45) := by
      unfold nameCh; simp [or_assoc]; omega
    have hno : nameCh c = false ↔ ¬ ((97 ≤ (c.toNat : Int) ∧ (c.toNat : Int) ≤ 122) ∨ (48 ≤ (c.toNat : Int) ∧ (c.toNat : Int) ≤ 57) ∨ (c.toNat : Int) = 45) := by
      rw [← hch]; cases nameCh c <;> simp
    refine br_dec (fun e1 => br_dec (fun e2 => br_ne (fun e3 => bad (hno.2 (by omega))) fun e3 => good (hch.2 (by omega))) fun e2 => br_dec (fun e3 => br_ne (fun e4 => bad (hno.2 (by omega))) fun e4 => good (hch.2 (by omega))) fun e3 => good (hch.2 (by omega))) fun e1 => br_dec (fun e2 => br_dec (fun e3 => br_ne (fun e4 => bad (hno.2 (by omega))) fun e4 => good (hch.2 (by omega))) fun e3 => br_dec (fun e4 => br_ne (fun e5 => bad (hno.2 (by omega))) fun e5 => good (hch.2 (by omega))) fun e4 => good (hch.2 (by omega))) fun e2 => good (hch.2 (by omega))
  · have e' : ¬ (i : Int) < (r.len : Int) := e
    rw [List.take_of_length_le (by omega)] at hall
    have hA : s.data.toList.all nameCh = true := List.all_eq_true.2 hall
    refine br_dec (fun e1 => ⟨?_, H1.sel []⟩) (fun e1 => ⟨?_, H1.sel []⟩)
    · unfold nameB
      rw [hA, decide_eq_true (show 1 ≤ s.size by omega)]
      congr 1; simp; omega
    · unfold nameB
      rw [hA, decide_eq_false (show ¬ 1 ≤ s.size by omega)]; rfl
theorem rise_spec (s : Sl) (l : List Int) (most : Int) (h : Heap) (hs : Rd h s 1 intv l) (hl : l.length ≤ 2 ^ 40) : Meets Tryz.prog mani_rise_id #[.slice s.ptr s.len s.cap, .int .i64 most] h fun v h' => v = .bool (riseB l most) ∧ h' = h := by
  refine mani_rise_run s most ?_
  unfold mani_rise_m
  have hsl := hs.len
  refine loop_inv (fun i : Nat => (i : Int)) (fun i h' => i ≤ l.length ∧ h' = h ∧ ∀ j, j < i → riseAt l most j = true) (fun i => l.length - i) 0 rfl ⟨by omega, rfl, by omega⟩ ?_
  rintro i h1 ⟨hi, rfl, hall⟩
  refine br_dec (fun e => ?_) (fun e => ?_)
  · have hi' : i < l.length := by
      have e' : (i : Int) < (s.len : Int) := e
      omega
    refine hs.get1 i rfl hi' l[i] rfl ?_
    have hg : l.getD i 0 = l[i] := getD_lt hi'
    have bad : riseAt l most i = false → Value.bool false = .bool (riseB l most) ∧ h1 = h1 := fun hb => ⟨by unfold riseB; rw [all_range_no hi' hb], rfl⟩
    have good : riseAt l most i = true → ∃ t' : Nat, IntKind.wrap .i64 ((i : Int) + 1) = (t' : Int) ∧ (t' ≤ l.length ∧ h1 = h1 ∧ ∀ j, j < t' → riseAt l most j = true) ∧ l.length - t' < l.length - i := fun hb =>
      ⟨i + 1, by rw [Go.Vc.wrap_small _ (by omega) (by omega)]; rfl, ⟨by omega, rfl, fun j hj => by
        by_cases hji : j = i
        · rw [hji]; exact hb
        · exact hall j (by omega)⟩, by omega⟩
    refine (in_spec l[i] 0 most h1).mono ?_
    rintro _ _ ⟨rfl, rfl⟩
    refine ⟨_, rfl, br_not (fun e1 => bad (by unfold riseAt; rw [hg, e1]; rfl)) fun e1 => br_dec (fun e2 => ?_) fun e2 => good (by unfold riseAt; rw [hg, e1, decide_eq_true (show i = 0 by omega)]; rfl)⟩
    rw [Go.Vc.wrap_small ((i : Int) - 1) (by omega) (by omega)]
    refine hs.get1 (i - 1) (by omega) (by omega) (l[i - 1]'(by omega)) rfl ?_
    have hg1 : l.getD (i - 1) 0 = l[i - 1]'(by omega) := getD_lt (by omega)
    refine br_dec (fun e3 => bad ?_) (fun e3 => good ?_)
    · unfold riseAt; rw [hg, hg1, e1, decide_eq_false (show ¬ i = 0 by omega), decide_eq_false (by omega)]; rfl
    · unfold riseAt; rw [hg, hg1, e1, decide_eq_true (show l[i - 1]'(by omega) < l[i] by omega)]; simp
  · have e' : ¬ (i : Int) < (s.len : Int) := e
    exact ⟨by unfold riseB; rw [all_range_yes fun j hj => hall j (by omega)], rfl⟩
theorem count_spec (p : Pm) (n : Int) (h : Heap) (hn : n ≤ 2 ^ 40) : Meets Tryz.prog chunk_Count_id #[pmv p, .int .i64 n] h fun v h' => v = .int .i64 (countP p n) ∧ Sp h h' [] := by
  refine chunk_Count_run p n ?_
  unfold chunk_Count_m
  refine (Sp.refl h).boxed fun a1 h1 H1 => ?_
  refine join_in ⟨p, (H1.box 0 rfl).cells0 _ rfl, (pre_May_spec p h1).mono ?_⟩
  rintro _ h2 ⟨rfl, R2⟩
  have H2 := H1.up R2.pres
  refine ⟨_, rfl, br_not (fun e => ⟨?_, H2.sel []⟩) fun hm => br_dec (fun e => ⟨?_, H2.sel []⟩) fun e => ?_⟩
  · unfold countP; rw [e]; rfl
  · unfold countP; rw [decide_eq_false (show ¬ 0 < n by omega), Bool.and_false]; rfl
  · have hmp := (mayP_iff p).1 hm
    refine ⟨p, (H2.box 0 rfl).cells0 _ rfl, ?_⟩
    refine (chunk_size_run p (R := fun v h' => v = .int .i64 (p.1 * p.2.2) ∧ Sp h h' []) ?_).mono ?_
    · unfold chunk_size_m
      refine H2.boxed fun a2 h3 H3 => ⟨p.1, (H3.box 1 rfl).cell0 rfl, p.2.2, (H3.box 1 rfl).cell rfl, ?_, H3.sel []⟩
      have hk : p.1 * p.2.2 ≤ 16 * 24 := Int.mul_le_mul (by omega) (by omega) (by omega) (by omega)
      have hk0 : 0 ≤ p.1 * p.2.2 := Int.mul_nonneg (by omega) (by omega)
      rw [Go.Vc.wrap_small _ (by omega) (by omega)]
    · rintro _ h3 ⟨rfl, R3⟩
      have hk0 : 0 < p.1 * p.2.2 := Int.mul_pos (by omega) (by omega)
      refine ⟨_, rfl, Int.ne_of_gt hk0, ?_, R3⟩
      have h1 : (n - 1) / (p.1 * p.2.2) ≤ n - 1 := Int.ediv_le_self _ (by omega)
      have h2 : 0 ≤ (n - 1) / (p.1 * p.2.2) := Int.ediv_nonneg (by omega) (by omega)
      rw [Go.Vc.wrap_small (n - 1) (by omega) (by omega), Int.tdiv_eq_ediv_of_nonneg (by omega), Go.Vc.wrap_small ((n - 1) / (p.1 * p.2.2)) (by omega) (by omega), Go.Vc.wrap_small _ (by omega) (by omega)]
      unfold countP
      rw [hm, decide_eq_true (show 0 < n by omega)]; rfl
theorem badTry_spec (s : Sl) (l : List Int) (h : Heap) (hs : Rd h s 1 intv l) (hl : l.length ≤ 2 ^ 40) : Meets Tryz.prog slices_ContainsFunc_int_int_id #[.slice s.ptr s.len s.cap, .func (.func mani_entry_1_id) #[] #[]] h fun v h' => v = .bool (!l.all (inB · 0 15)) ∧ h' = h := by
  refine slices_ContainsFunc_int_int_run s (mani_entry_1_id, #[], #[]) ?_
  unfold slices_ContainsFunc_int_int_m
  have hsl := hs.len
  refine (slices_IndexFunc_int_int_run s (mani_entry_1_id, #[], #[]) (R := fun v h' => (∃ i : Int, v = .int .i64 i ∧ (decide (i ≥ 0) = !l.all (inB · 0 15))) ∧ h' = h) ?_).mono ?_
  · unfold slices_IndexFunc_int_int_m
    refine loop_inv (fun i : Nat => (i : Int)) (fun i h' => i ≤ l.length ∧ (l.take i).all (inB · 0 15) = true ∧ h' = h) (fun i => l.length - i) 0 rfl ⟨by omega, by simp, rfl⟩ ?_
    rintro i h1 ⟨hi, hall, rfl⟩
    refine br_dec (fun e => ?_) (fun e => ?_)
    · have hi' : i < l.length := by
        have e' : (i : Int) < (s.len : Int) := e
        omega
      refine hs.get1 i rfl hi' l[i] rfl (dyn_in (by rfl) ?_)
      refine (mani_entry_1_run l[i] (R := fun v h' => v = .bool (!inB l[i] 0 15) ∧ h' = h1) ?_).mono ?_
      · unfold mani_entry_1_m
        refine (in_spec l[i] 0 15 h1).mono ?_
        rintro _ _ ⟨rfl, rfl⟩
        exact ⟨_, rfl, rfl, rfl⟩
      · rintro _ _ ⟨rfl, rfl⟩
        refine ⟨_, rfl, br_not (fun e2 => ?_) (fun e2 => ?_)⟩
        · refine ⟨⟨i, rfl, ?_⟩, rfl⟩
          rw [decide_eq_true (show (i : Int) ≥ 0 by omega)]
          have : l.all (inB · 0 15) = false := List.all_eq_false.2 ⟨_, List.getElem_mem hi', by rw [e2]; simp⟩
          rw [this]; rfl
        · refine ⟨i + 1, by rw [Go.Vc.wrap_small _ (by omega) (by omega)]; rfl, ⟨by omega, ?_, rfl⟩, by omega⟩
          rw [take_snoc _ _ hi', List.all_append, hall]; simp [e2]
    · have e' : ¬ (i : Int) < (s.len : Int) := e
      refine ⟨⟨-1, rfl, ?_⟩, rfl⟩
      rw [List.take_of_length_le (by omega)] at hall
      rw [hall]; rfl
  · rintro _ h1 ⟨⟨i, rfl, hi⟩, rfl⟩
    exact ⟨i, rfl, by rw [hi], rfl⟩
end Go.Proofs.YtmaknfkhibljfaaGreat
namespace Wl
structure ManSz (m : Mani) : Prop where
  dr : m.drives.length ≤ 2 ^ 30
  ob : m.objs.length ≤ 2 ^ 30
  nm : ∀ e ∈ m.objs, e.name.size ≤ 2 ^ 30 ∧ e.tries.length ≤ 2 ^ 30
end Wl
namespace Go.Vc
open Go
theorem addr_add (a : Addr) (i j : Nat) : (a.add i).add j = a.add (i + j) := by
  unfold Addr.add
  by_cases hi : i = 0 <;> by_cases hj : j = 0 <;> simp [hi, hj, Nat.add_assoc]
theorem Box.at2 {h : Heap} {a : Addr} {e : TypeId} {cs : List Value} {v : Value} (hb : Box h a e cs) (i j : Nat) (hv : cs[i + j]? = some v) : cellOf h ((a.add i).add j) = some v := by
  rw [addr_add]; exact hb.cell hv
theorem Box.part3 {h : Heap} {a : Addr} {e : TypeId} {cs : List Value} {u v w : Value} (hb : Box h a e cs) (i : Nat) (h0 : cs[i]? = some u) (h1 : cs[i + 1]? = some v) (h2 : cs[i + 2]? = some w) : cellsAt h (a.add i) 0 [u, v, w] :=
  ⟨hb.at2 i 0 h0, hb.at2 i 1 h1, hb.at2 i 2 h2, trivial⟩
end Go.Vc
namespace Go.Proofs.YtmaknfkhibljfaaGreat
open Go Go.Vc Go.Proofs Wl
set_option maxRecDepth 100000
abbrev eEnt : ElemOk C.toCfg T_sl_api_Entry T_api_Entry 4 [.string ⟨#[]⟩, .int .i64 0, .int .i64 0, .slice none 0 0] 56 := ⟨_, _, rfl, rfl, rfl, rfl, rfl, rfl⟩
theorem entry_spec (x : ManV) (m : Mani) (e : EntH) (E : Wl.Ent) (h : Heap) (hx : RdM h x m) (he : RdE EltEnt h e E) (hh : headB m = true) (hn : E.name.size ≤ 2 ^ 30) (ht : E.tries.length ≤ 2 ^ 30) :
    Meets Tryz.prog mani_entry_id #[manv x, .agg #[.string e.1, .int .i64 e.2.1, .int .i64 e.2.2.1, .slice e.2.2.2.ptr e.2.2.2.len e.2.2.2.cap]] h fun v h' => v = .bool (entryB m E) ∧ Sp h h' [] := by
  refine mani_entry_run x e ?_
  unfold mani_entry_m
  obtain ⟨_, hnx, hmay, _⟩ := head_iff hh
  have hmp := (mayP_iff m.p).1 hmay
  obtain ⟨⟨e1, e2, e3⟩, e4⟩ := he
  have hp1 : x.2.2.1 = m.p.1 := congrArg (·.1) hx.p
  have hp2 : x.2.2.2.1 = m.p.2.1 := congrArg (·.2.1) hx.p
  have hp3 : x.2.2.2.2.1 = m.p.2.2 := congrArg (·.2.2) hx.p
  have hk : m.p.1 * m.p.2.2 ≤ 16 * 24 := Int.mul_le_mul (by omega) (by omega) (by omega) (by omega)
  have hk0 : 0 ≤ m.p.1 * m.p.2.2 := Int.mul_nonneg (by omega) (by omega)
  refine (Sp.refl h).boxed fun a1 h1 H1 => ?_
  refine H1.boxed fun a2 h2 H2 => ?_
  have no : ∀ {h' : Heap} {As : List HP}, Sp h h' As → entryB m E = false → Value.bool false = .bool (entryB m E) ∧ Sp h h' [] := fun {h' As} H' hb => ⟨by rw [hb], .zip H'.pres⟩
  refine join_in ⟨E.name, by rw [← e1]; exact (H2.box 1 rfl).cell0 rfl, (name_spec E.name h2 (by omega)).mono ?_⟩
  rintro _ h3 ⟨rfl, R3⟩
  have H3 := H2.up R3.pres
  refine ⟨_, rfl, br_not (fun b => no H3 (by unfold entryB; rw [b]; rfl)) fun b1 => ?_⟩
  refine ⟨E.object, by rw [← e2]; exact (H3.box 1 rfl).cell rfl, m.next, by rw [← hx.next]; exact (H3.box 0 rfl).cell rfl, ?_⟩
  rw [Go.Vc.wrap_small (m.next - 1) (by omega) (by omega)]
  refine (in_spec E.object 0 (m.next - 1) h3).mono ?_
  rintro _ _ ⟨rfl, rfl⟩
  refine ⟨_, rfl, br_not (fun b => no H3 (by unfold entryB; rw [b1, b]; rfl)) fun b2 => ?_⟩
  have hb := H3.box 0 rfl
  refine ⟨E.length, by rw [← e3]; exact (H3.box 1 rfl).cell rfl, m.p.1, by rw [← hp1]; exact hb.cell rfl, m.p.2.2, by rw [← hp3]; exact hb.at2 2 2 rfl, ?_⟩
  rw [Go.Vc.wrap_small (m.p.1 * m.p.2.2) (by omega) (by omega), Go.Vc.wrap_small (m.p.1 * m.p.2.2 * 8) (by omega) (by omega)]
  refine (in_spec E.length 0 (m.p.1 * m.p.2.2 * 8) _).mono ?_
  rintro _ _ ⟨rfl, rfl⟩
  refine ⟨_, rfl, br_not (fun b => no H3 (by unfold entryB; rw [b1, b2, b]; rfl)) fun b3 => ?_⟩
  have hlen : 0 ≤ E.length ∧ E.length ≤ m.p.1 * m.p.2.2 * 8 := by unfold inB at b3; simpa using b3
  refine ⟨e.2.2.2, (H3.box 1 rfl).cell rfl, ?_⟩
  refine (badTry_spec e.2.2.2 E.tries _ (Seq.up e4 H3.pres) (by omega)).mono ?_
  rintro _ _ ⟨rfl, rfl⟩
  refine ⟨_, rfl, br_not (fun b => ?_) (fun b => ⟨trivial, no H3 ?_⟩)⟩
  · have b4 : E.tries.all (inB · 0 15) = true := by simpa using b
    refine ⟨e.2.2.2, (H3.box 1 rfl).cell rfl, m.p, ?_, E.length, by rw [← e3]; exact (H3.box 1 rfl).cell rfl, ?_⟩
    · rw [← hp1, ← hp2, ← hp3]
      exact hb.part3 2 rfl rfl rfl
    · refine (count_spec m.p E.length _ (by omega)).mono ?_
      rintro _ h4 ⟨rfl, R4⟩
      have H4 := H3.up R4.pres
      refine ⟨_, rfl, ⟨(H4.box 1 rfl).cell rfl, trivial⟩, ?_, .zip H4.pres⟩
      unfold entryB
      have el := e4.len
      rw [b1, b2, b3, b4, el]
      simp
      rfl
  · have b4 : E.tries.all (inB · 0 15) = false := by simpa using b
    unfold entryB; rw [b1, b2, b3, b4]; rfl
theorem anyObj_spec (a : Addr) (e : EntH) (l : Sl) (ents : List Wl.Ent) (h : Heap) (hb : Box h a T_api_Entry (entv e)) (hl : RdE EltEnts h l ents) (hs : ents.length ≤ 2 ^ 30) :
    Meets Tryz.prog slices_ContainsFunc_api_Entry_api_Entry_id #[.slice l.ptr l.len l.cap, .func (.func mani_May_1_id) #[] #[.pointer (some a)]] h fun v h' => v = .bool (ents.any fun y => decide (y.object = e.2.1)) ∧ Sp h h' [] := by
  refine slices_ContainsFunc_api_Entry_api_Entry_run l (mani_May_1_id, #[], #[.pointer (some a)]) ?_
  unfold slices_ContainsFunc_api_Entry_api_Entry_m
  refine (slices_IndexFunc_api_Entry_api_Entry_run l (mani_May_1_id, #[], #[.pointer (some a)]) (R := fun v h' => (∃ i : Int, v = .int .i64 i ∧ (decide (i ≥ 0) = ents.any fun y => decide (y.object = e.2.1))) ∧ Sp h h' []) ?_).mono ?_
  · unfold slices_IndexFunc_api_Entry_api_Entry_m
    obtain ⟨ys, q1, q2, q3⟩ := EltL.heads hl
    have hll := EltL.len hl
    refine loop_inv (fun i : Nat => (i : Int)) (fun i h' => i ≤ ents.length ∧ (ents.take i).any (fun y => decide (y.object = e.2.1)) = false ∧ Sp h h' []) (fun i => ents.length - i) 0 rfl ⟨by omega, by simp, Sp.refl h⟩ ?_
    rintro i h1 ⟨hi, hall, H1⟩
    refine br_dec (fun e1 => ?_) (fun e1 => ?_)
    · have hi' : i < ents.length := by
        have e' : (i : Int) < (l.len : Int) := e1
        omega
      obtain ⟨⟨_, y2, _⟩, _⟩ := q3 i (by omega) hi'
      refine (Seq.up q1 H1.pres).getk (g := entv) i rfl (by omega) (ys[i]'(by omega)) rfl (dyn_in (by rfl) ?_)
      refine (mani_May_1_run (ys[i]'(by omega)) a (R := fun v h' => v = .bool (ents[i].object == e.2.1) ∧ Sp h1 h' []) ?_).mono ?_
      · unfold mani_May_1_m
        refine (Sp.refl h1).boxed fun a2 h2 H2 => ?_
        have hb2 := hb.pres (up H1.pres H2.pres) hb.lt
        exact ⟨ents[i].object, by rw [← y2]; exact (H2.box 0 rfl).cell rfl, e.2.1, hb2.cell rfl, rfl, .zip H2.pres⟩
      · rintro _ h2 ⟨rfl, R2⟩
        have H2 := H1.up R2.pres
        refine ⟨_, rfl, br_eq (fun e2 => ?_) (fun e2 => ?_)⟩
        · refine ⟨⟨i, rfl, ?_⟩, H2⟩
          rw [decide_eq_true (show (i : Int) ≥ 0 by omega)]
          exact (List.any_eq_true.2 ⟨_, List.getElem_mem hi', by simpa using e2⟩).symm
        · refine ⟨i + 1, by rw [Go.Vc.wrap_small _ (by omega) (by omega)]; rfl, ⟨by omega, ?_, H2⟩, by omega⟩
          rw [take_snoc _ _ hi', List.any_append, hall]; simpa using e2
    · have e' : ¬ (i : Int) < (l.len : Int) := e1
      refine ⟨⟨-1, rfl, ?_⟩, H1⟩
      rw [List.take_of_length_le (by omega)] at hall
      rw [hall]; rfl
  · rintro _ h1 ⟨⟨i, rfl, hi⟩, R1⟩
    exact ⟨i, rfl, by rw [hi], R1⟩
theorem may_spec (x : ManV) (m : Mani) (h : Heap) (hx : RdM h x m) (hz : ManSz m) : Meets Tryz.prog mani_May_id #[manv x] h fun v h' => v = .bool (mayM m) ∧ Sp h h' [] := by
  refine mani_May_run x ?_
  unfold mani_May_m
  refine (Sp.refl h).boxed fun a1 h1 H1 => ?_
  have hb := H1.box 0 rfl
  have hp1 : x.2.2.1 = m.p.1 := congrArg (·.1) hx.p
  have hp2 : x.2.2.2.1 = m.p.2.1 := congrArg (·.2.1) hx.p
  have hp3 : x.2.2.2.2.1 = m.p.2.2 := congrArg (·.2.2) hx.p
  have no : ∀ {h' : Heap} {As : List HP}, Sp h h' As → mayM m = false → Value.bool false = .bool (mayM m) ∧ Sp h h' [] := fun {h' As} H' hb => ⟨by rw [hb], .zip H'.pres⟩
  refine join_in ⟨m.seq, by rw [← hx.seq]; exact hb.cell0 rfl, (in_spec m.seq 1 2147483647 h1).mono ?_⟩
  rintro _ _ ⟨rfl, rfl⟩
  refine ⟨_, rfl, br_not (fun b => no H1 (by unfold mayM headB; rw [b]; rfl)) fun b1 => ?_⟩
  refine ⟨m.next, by rw [← hx.next]; exact hb.cell rfl, (in_spec m.next 0 16777216 _).mono ?_⟩
  rintro _ _ ⟨rfl, rfl⟩
  refine ⟨_, rfl, br_not (fun b => no H1 (by unfold mayM headB; rw [b1, b]; rfl)) fun b2 => ?_⟩
  refine ⟨m.p, by rw [← hp1, ← hp2, ← hp3]; exact hb.part3 2 rfl rfl rfl, (pre_May_spec m.p _).mono ?_⟩
  rintro _ h2 ⟨rfl, R2⟩
  have H2 := H1.up R2.pres
  refine ⟨_, rfl, br_not (fun b => no H2 (by unfold mayM headB; rw [b1, b2, b]; rfl)) fun b3 => ?_⟩
  refine ⟨m.extra, by rw [← hx.extra]; exact (H2.box 0 rfl).cell rfl, (in_spec m.extra 0 16 _).mono ?_⟩
  rintro _ _ ⟨rfl, rfl⟩
  refine ⟨_, rfl, br_not (fun b => no H2 (by unfold mayM headB; rw [b1, b2, b3, b]; rfl)) fun b4 => ?_⟩
  have hh : headB m = true := by unfold headB; rw [b1, b2, b3, b4]; rfl
  have hx2 := hx.up H2.pres
  have hb2 := H2.box 0 rfl
  have hdl := hz.dr
  have hol := hz.ob
  refine join_in ⟨_, hb2.cell rfl, (rise_spec _ m.drives 63 _ hx2.drives (by omega)).mono ?_⟩
  rintro _ _ ⟨rfl, rfl⟩
  refine ⟨_, rfl, br_not (fun b => no H2 (by unfold mayM; rw [hh, b]; rfl)) fun b5 => ?_⟩
  have hlen := EltL.len hx.objs
  refine ⟨x.2.2.2.2.2.2.2, hb2.cell rfl, br_dec (fun e => no H2 ?_) fun e12 => ?_⟩
  · unfold mayM; rw [hh, b5, decide_eq_false (by omega)]; rfl
  have h12 : m.objs.length ≤ 12 := by omega
  refine ⟨x.2.2.2.2.2.2.2, hb2.cell rfl, ?_⟩
  obtain ⟨ys, F0⟩ := EltL.fix hx.objs
  have hyl := F0.2.1
  refine loop_inv (fun i : Nat => (i : Int)) (fun i h' => i ≤ m.objs.length ∧ (∀ j, j < i → objAt m j = true) ∧ Sp h h' [BoxA a1 T_api_Manifest (manL x)]) (fun i => m.objs.length - i) 0 rfl ⟨by omega, by omega, H2⟩ ?_
  rintro i h3 ⟨hi, hall, H3⟩
  refine br_dec (fun e => ?_) (fun e => ?_)
  · have hi' : i < m.objs.length := by
      have e' : (i : Int) < (x.2.2.2.2.2.2.2.len : Int) := e
      omega
    have hz1 := hz.nm _ (List.getElem_mem hi')
    have hat : entAt m.objs i = m.objs[i] := entAt_lt hi'
    have bad : ∀ {h' : Heap} {As : List HP}, Sp h h' As → objAt m i = false → Value.bool false = .bool (mayM m) ∧ Sp h h' [] := fun {h' As} H' hb => no H' (by unfold mayM; rw [all_range_no hi' hb]; simp)
    have F3 := RdF.up F0 H3.pres
    refine F3.1.getk (g := entv) i rfl (by omega) (ys[i]'(by omega)) rfl ?_
    refine H3.alloc C_ok rfl fun a19 h4 H4 => ?_
    refine H4.storeAll C_ok 1 rfl rfl (entv (ys[i]'(by omega))) rfl rfl rfl rfl fun h5 H5 => ?_
    have H5 : Sp h h5 [BoxA a1 T_api_Manifest (manL x), BoxA a19 T_api_Entry (entv (ys[i]'(by omega)))] := H5
    have F5 := RdF.up F0 H5.pres
    obtain ⟨⟨y1, y2, y3⟩, y4⟩ := Fix.row F5 hi'
    obtain ⟨b6, hb6⟩ : ∃ b, b = (decide (i = 0) || nameLt (entAt m.objs (i - 1)).name (entAt m.objs i).name) := ⟨_, rfl⟩
    refine join_cut (fun _ h' => entryB m m.objs[i] = true ∧ b6 = true ∧ Sp h h' [BoxA a1 T_api_Manifest (manL x), BoxA a19 T_api_Entry (entv (ys[i]'(by omega)))]) ?_ ?_
    · refine ⟨x, (H5.box 0 rfl).cells0 _ rfl, ys[i]'(by omega), (H5.box 1 rfl).cells0 _ rfl, ?_⟩
      refine (entry_spec x m (ys[i]'(by omega)) m.objs[i] h5 (hx.up H5.pres) (Fix.row F5 hi') hh hz1.1 hz1.2).mono ?_
      rintro _ h6 ⟨rfl, R6⟩
      have H6 := H5.up R6.pres
      have F6 := RdF.up F0 H6.pres
      refine ⟨_, rfl, trivial, br_not (fun b => bad H6 (by unfold objAt; rw [hat, b]; rfl)) fun b => br_dec (fun e2 => ?_) fun e2 => ⟨b, by rw [hb6, decide_eq_true (show i = 0 by omega)]; rfl, H6⟩⟩
      rw [Go.Vc.wrap_small ((i : Int) - 1) (by omega) (by omega)]
      obtain ⟨a24, ha, zz, hc, rfl⟩ := F6.1.getk (g := entv) (i := (i : Int) - 1) (i - 1) (by omega) (by omega) (ys[i - 1]'(by omega)) rfl (K := fun t => t = ys[i - 1]'(by omega)) rfl
      refine ⟨x.2.2.2.2.2.2.2, (H6.box 0 rfl).cell rfl, a24, ha, m.objs[i - 1].name, ?_, m.objs[i].name, ?_, ?_⟩
      · rw [← (Fix.row F6 (show i - 1 < m.objs.length by omega)).1.1]; exact hc.1
      · rw [← y1]; exact (H6.box 1 rfl).cell0 rfl
      · have hat1 : entAt m.objs (i - 1) = m.objs[i - 1] := entAt_lt (by omega)
        rw [hat, hat1] at hb6
        refine br_not (fun e3 => bad H6 ?_) (fun e3 => ⟨b, ?_, H6⟩)
        · unfold objAt
          rw [hat, hat1, b, decide_eq_false (show ¬ i = 0 by omega)]
          unfold nameLt; rw [e3]; rfl
        · rw [hb6]; unfold nameLt; rw [e3]; simp
    · rintro _ h6 ⟨b, b6t, H6⟩
      have F6 := RdF.up F0 H6.pres
      refine ⟨x.2.2.2.2.2.2.2, (H6.box 0 rfl).cell rfl, ⟨by omega, by have := hx.ocap; omega⟩, ?_⟩
      rw [Int.toNat_natCast]
      refine (anyObj_spec a19 (ys[i]'(by omega)) ⟨x.2.2.2.2.2.2.2.ptr, i, x.2.2.2.2.2.2.2.cap⟩ (m.objs.take i) h6 (H6.box 1 rfl) (EltL.take F6.elt i (by omega)) (by simp; omega)).mono ?_
      rintro _ h7 ⟨rfl, R7⟩
      have H7 := H6.up R7.pres
      rw [y2]
      refine ⟨_, rfl, br_b (fun e3 => bad H7 ?_) fun e3 => ?_⟩
      · unfold objAt; rw [hat, e3]; simp
      · refine ⟨i + 1, by rw [Go.Vc.wrap_small _ (by omega) (by omega)]; rfl, ⟨by omega, fun j hj => ?_, H7.sel [0]⟩, by omega⟩
        by_cases hji : j = i
        · subst hji
          rw [b6t] at hb6
          unfold objAt; rw [← hb6, hat, b, e3]; rfl
        · exact hall j (by omega)
  · have e' : ¬ (i : Int) < (x.2.2.2.2.2.2.2.len : Int) := e
    refine ⟨?_, .zip H3.pres⟩
    unfold mayM
    rw [hh, b5, decide_eq_true h12, all_range_yes fun j hj => hall j (by omega)]; rfl
end Go.Proofs.YtmaknfkhibljfaaGreat
namespace Go.Proofs.YtmaknfkhibljfaaGreat
open Go Go.Vc Go.Proofs Wl
set_option maxRecDepth 100000
section
variable {B : Blocks} {h0 h : Heap} {As : List HP}
theorem number_spec (s : Sl) (l : List UInt8) (n : Int) (k : Nat) (hk : k ≤ 4) (hl : l.length ≤ 2 ^ 20) (H : SpB B h0 h (OwnA T_uint8 s 1 u8v l :: As)) :
    Meets Tryz.prog mani_number_id #[.slice s.ptr s.len s.cap, .int .i64 n, .int .i64 k] h fun v h' => ∃ s' : Sl, v = .slice s'.ptr s'.len s'.cap ∧ SpB B h0 h' (OwnA T_uint8 s' 1 u8v (l ++ highB n k) :: As) := by
  refine mani_number_run s n k ?_
  unfold mani_number_m
  have hbl := highB_len n k
  refine loop_inv (fun t : Sl × Nat => (t.1, (k : Int) - 1 - t.2)) (fun t h' => t.2 ≤ k ∧ SpB B h0 h' (OwnA T_uint8 t.1 1 u8v (l ++ (highB n k).take t.2) :: As)) (fun t => k - t.2) (s, 0) (by rw [Go.Vc.wrap_small _ (by omega) (by omega)]; simp) ⟨by simp, by simpa using H⟩ ?_
  rintro ⟨o, j⟩ h1 ⟨hj, H1⟩
  dsimp only at *
  refine br_dec (fun e => ?_) (fun e => ?_)
  · have hj' : j < k := by omega
    rw [Go.Vc.wrap_small ((8 : Int) * ((k : Int) - 1 - j)) (by omega) (by omega)]
    refine ⟨by omega, ?_⟩
    have e8 : ((8 : Int) * ((k : Int) - 1 - j)).toNat = 8 * (k - 1 - j) := by omega
    have e9 : min (8 * (k - 1 - j)) (IntKind.bits .i64) = 8 * (k - 1 - j) := by
      have : IntKind.bits .i64 = 64 := rfl
      omega
    rw [e8, e9, b8_wrap]
    have hg : b8 (Int.fdiv n (2 ^ (8 * (k - 1 - j)))) = (highB n k)[j]'(by omega) := by simp [highB]
    rw [hg]
    refine H1.push C_ok 0 rfl eU8 rfl (by decide) (fun _ => rfl) one_u8 ((highB n k)[j]'(by omega)) rfl (by decide) (by simp; omega) fun o' h2 H2 => ?_
    refine ⟨(o', j + 1), by dsimp only; rw [Go.Vc.wrap_small _ (by omega) (by omega)]; congr 1; omega, ⟨by dsimp only; omega, ?_⟩, by dsimp only; omega⟩
    dsimp only
    rw [take_snoc _ _ (show j < (highB n k).length by omega), ← List.append_assoc]
    exact H2
  · rw [List.take_of_length_le (by omega)] at H1
    exact ⟨o, rfl, H1⟩
theorem bytes_loop (src : Sl) (l : List Int) (o : Sl) (acc : List UInt8) (H : SpB B h0 h (OwnA T_uint8 o 1 u8v acc :: As)) (hS : St B h0 As fun h => Rd h src 1 intv l) (ha : acc.length ≤ 2 ^ 30) (hl : l.length ≤ 2 ^ 30) {K : Sl × Int → Heap → Prop}
    (hk : ∀ o' h', SpB B h0 h' (OwnA T_uint8 o' 1 u8v (acc ++ l.map b8) :: As) → K (o', (l.length : Int)) h') :
    LoopM (σ := Sl × Int) (fun s17 K2 h8 =>
  Br (decide (s17.2 < ((src.len : Nat) : Int)))
  (∃ a18 : Addr, (src.ptr = some a18 ∧ 0 ≤ s17.2 ∧ s17.2 < ((src.len : Nat) : Int)) ∧
  ∃ x19 : Int, cellOf h8 (a18.add (s17.2.toNat * 1)) = some (.int .i64 x19) ∧
  RunsR Tryz.prog (Instr.buildSlice T_sl_uint8 1 #[(0, (.int .u8 (IntKind.wrap .u8 x19)))]) (.one (.sc .slc)) h8 fun v20 h9 =>
  RunsR Tryz.prog (Builtin.append_ #[T_sl_uint8, T_sl_uint8] T_sl_uint8 #[(.slice s17.1.ptr s17.1.len s17.1.cap), (.slice v20.ptr v20.len v20.cap)]) (.one (.sc .slc)) h9 fun v21 h10 =>
  K2 ((⟨v21.ptr, v21.len, v21.cap⟩ : Sl), IntKind.wrap .i64 (s17.2 + (1 : Int))) h10)
  (K s17 h8)) (o, (0 : Int)) h := by
  have hsl : src.len = l.length := (hS.at [_] H).len
  refine loop_inv (fun t : Sl × Nat => (t.1, (t.2 : Int))) (fun t h' => t.2 ≤ l.length ∧ SpB B h0 h' (OwnA T_uint8 t.1 1 u8v (acc ++ (l.take t.2).map b8) :: As)) (fun t => l.length - t.2) (o, 0) rfl ⟨by simp, by simpa using H⟩ ?_
  rintro ⟨u, i⟩ h1 ⟨hi, H1⟩
  dsimp only at *
  refine br_dec (fun e => ?_) (fun e => ?_)
  · have hi' : i < l.length := by omega
    refine (hS.at [_] H1).get1 i rfl hi' l[i] rfl ?_
    rw [b8_wrap]
    refine H1.push C_ok 0 rfl eU8 rfl (by decide) (fun _ => rfl) one_u8 (b8 l[i]) rfl (by decide) (by simp; omega) fun u' h2 H2 => ?_
    refine ⟨(u', i + 1), by dsimp only; rw [Go.Vc.wrap_small _ (by omega) (by omega)]; rfl, ⟨by dsimp only; omega, ?_⟩, by dsimp only; omega⟩
    dsimp only
    rw [take_snoc _ _ hi', List.map_append, ← List.append_assoc]
    exact H2
  · have hie : i = l.length := by omega
    subst hie
    rw [List.take_length] at H1
    exact hk u h1 H1
end
theorem ent_may {m : Mani} (hm : mayM m = true) {i : Nat} (hi : i < m.objs.length) : entryB m m.objs[i] = true := by
  unfold mayM at hm
  simp only [Bool.and_eq_true] at hm
  have := List.all_eq_true.1 hm.2.2.2 i (List.mem_range.2 hi)
  unfold objAt at this
  simp only [Bool.and_eq_true] at this
  have h1 := this.1
  rwa [entAt_lt hi] at h1
theorem ent_sz {m : Mani} (hm : mayM m = true) {i : Nat} (hi : i < m.objs.length) : m.objs[i].name.size ≤ 12 ∧ m.objs[i].tries.length ≤ 3073 := by
  have h1 := ent_may hm hi
  unfold entryB nameB at h1
  simp only [Bool.and_eq_true, decide_eq_true_eq] at h1
  obtain ⟨⟨_, _, h2⟩, _, h3, _, h4⟩ := h1
  refine ⟨h2, ?_⟩
  obtain ⟨_, _, hmay, _⟩ := head_iff (mayM_head hm)
  have hmp := (mayP_iff m.p).1 hmay
  unfold inB at h3
  simp only [Bool.and_eq_true, decide_eq_true_eq] at h3
  have hk : m.p.1 * m.p.2.2 ≤ 16 * 24 := Int.mul_le_mul (by omega) (by omega) (by omega) (by omega)
  unfold countP at h4
  split at h4
  · have : (m.objs[i].length - 1) / (m.p.1 * m.p.2.2) ≤ m.objs[i].length - 1 := Int.ediv_le_self _ (by rename_i hc; simp at hc; omega)
    omega
  · omega
theorem packE_len {m : Mani} (hm : mayM m = true) {i : Nat} (hi : i < m.objs.length) : (packE m.objs[i]).length ≤ 4000 := by
  have := ent_sz hm hi
  unfold packE
  simp [highB_len]
  have : m.objs[i].name.data.size = m.objs[i].name.size := rfl
  omega
theorem packs_len {m : Mani} (hm : mayM m = true) : ∀ n, n ≤ m.objs.length → ((m.objs.take n).flatMap packE).length ≤ n * 4000
  | 0, _ => by simp
  | n + 1, hn => by
    rw [take_snoc _ _ (show n < m.objs.length by omega), List.flatMap_append, List.length_append]
    have h1 := packs_len hm n (by omega)
    have h2 := packE_len hm (show n < m.objs.length by omega)
    have h3 : ([m.objs[n]].flatMap packE).length = (packE m.objs[n]).length := by rw [List.flatMap_cons, List.flatMap_nil, List.append_nil]
    omega
theorem objs_len {m : Mani} (hm : mayM m = true) : m.objs.length ≤ 12 := by
  unfold mayM at hm
  simp only [Bool.and_eq_true, decide_eq_true_eq] at hm
  exact hm.2.2.1
theorem pack_len (m : Mani) (hz : ManSz m) : (packM m).length ≤ 100000 := by
  unfold packM
  split
  · rename_i hm
    have h1 := hm
    unfold mayM at h1
    simp only [Bool.and_eq_true, decide_eq_true_eq] at h1
    have hd : m.drives.length ≤ 64 := by
      have h2 := h1.2.1
      unfold riseB at h2
      rw [List.all_eq_true] at h2
      by_cases hn : m.drives.length ≤ 64
      · exact hn
      · exfalso
        have key : ∀ i, i < m.drives.length → (i : Int) ≤ m.drives.getD i 0 := fun i => by
          induction i with
          | zero =>
            intro hi
            have := h2 0 (List.mem_range.2 hi)
            unfold riseAt inB at this
            simp at this; simpa using this.1
          | succ i ih =>
            intro hi
            have := h2 (i + 1) (List.mem_range.2 hi)
            have h3 := ih (by omega)
            unfold riseAt inB at this
            simp at this
            have h4 := this.2
            simp only [List.getD_eq_getElem?_getD] at h3 ⊢
            omega
        have h3 := key 64 (by omega)
        have h4 := h2 64 (List.mem_range.2 (by omega))
        unfold riseAt inB at h4
        simp at h4
        simp only [List.getD_eq_getElem?_getD] at h3
        omega
    have ho : (m.objs.flatMap packE).length ≤ 12 * 4000 := by
      have h2 := packs_len hm m.objs.length (Nat.le_refl _)
      rw [List.take_length] at h2
      have := Nat.mul_le_mul_right 4000 (objs_len hm)
      omega
    simp only [List.length_append, List.length_cons, List.length_nil, List.length_map, highB_len]
    omega
  · simp
theorem pack_spec (x : ManV) (m : Mani) (h : Heap) (hx : RdM h x m) (hz : ManSz m) : Meets Tryz.prog mani_Pack_id #[manv x] h fun v h' => ∃ r : Sl, v = .slice r.ptr r.len r.cap ∧ Sp h h' [OwnA T_uint8 r 1 u8v (packM m)] := by
  refine mani_Pack_run x ?_
  unfold mani_Pack_m
  refine (Sp.refl h).boxed fun a1 h1 H1 => ?_
  refine ⟨x, (H1.box 0 rfl).cells0 _ rfl, (may_spec x m h1 (hx.up H1.pres) hz).mono ?_⟩
  rintro _ h2 ⟨rfl, R2⟩
  have H2 := H1.up R2.pres
  refine ⟨_, rfl, br_not (fun e => ?_) fun hm => ?_⟩
  · unfold packM; rw [e]; exact ⟨⟨none, 0, 0⟩, rfl, ((H2.nil T_uint8 1 u8v).sel [1])⟩
  have hp1 : x.2.2.1 = m.p.1 := congrArg (·.1) hx.p
  have hp2 : x.2.2.2.1 = m.p.2.1 := congrArg (·.2.1) hx.p
  have hp3 : x.2.2.2.2.1 = m.p.2.2 := congrArg (·.2.2) hx.p
  have hb2 := H2.box 0 rfl
  have hplen := pack_len m hz
  unfold packM at hplen
  rw [hm, if_pos rfl] at hplen
  have hM : ∀ {h' : Heap} {As : List HP}, Sp h h' As → RdM h' x m := fun {h' As} H' => hx.up H'.pres
  refine join_in ⟨m.seq, by rw [← hx.seq]; exact hb2.cell0 rfl, m.next, by rw [← hx.next]; exact hb2.cell rfl, ?_⟩
  have H3 := (H2.nil T_uint8 1 u8v).front1
  refine (number_spec ⟨none, 0, 0⟩ [] m.seq 4 (by decide) (by simp) H3).mono ?_
  rintro _ h4 ⟨s4, rfl, H4⟩
  refine ⟨s4, rfl, ⟨by rw [← hx.next]; exact (H4.box 1 rfl).cell rfl, trivial⟩, ?_⟩
  refine (number_spec s4 _ m.next 4 (by decide) (by simp [highB_len]) H4).mono ?_
  rintro _ h5 ⟨s5, rfl, H5⟩
  refine ⟨s5, rfl, trivial, ?_⟩
  have hb5 := H5.box 1 rfl
  refine ⟨m.p.1, by rw [← hp1]; exact hb5.cell rfl, m.p.2.1, by rw [← hp2]; exact hb5.at2 2 1 rfl, m.p.2.2, by rw [← hp3]; exact hb5.at2 2 2 rfl, m.extra, by rw [← hx.extra]; exact hb5.cell rfl, x.2.2.2.2.2.2.1, hb5.cell rfl, ?_⟩
  have hdl := hx.drives.len
  have hol := EltL.len hx.objs
  rw [b8_wrap, b8_wrap, b8_wrap, b8_wrap, b8_wrap, hdl]
  refine H5.lit C_ok u8v eU8 rfl [b8 m.p.1, b8 m.p.2.1, b8 m.p.2.2, b8 m.extra, b8 (m.drives.length : Nat)] rfl (show 5 * 1 ≤ 2 ^ 20 by decide) rfl fun v14 h6 H6 => ?_
  refine H6.append C_ok 0 rfl eU8 ⟨_, _, rfl, rfl⟩ rfl (by decide) (fun _ => rfl) (H6.seq 2 rfl fun _ => rfl) one_u8 (by simp [highB_len]) fun s7 h7 H7 => ?_
  have H7 := H7.sel [0, 1]
  refine ⟨x.2.2.2.2.2.2.1, (H7.box 1 rfl).cell rfl, ?_⟩
  have hacc : (([] ++ highB m.seq 4) ++ highB m.next 4 ++ [b8 m.p.1, b8 m.p.2.1, b8 m.p.2.2, b8 m.extra, b8 (m.drives.length : Nat)]).length = 13 := by simp [highB_len]
  have hdr := hz.dr
  refine bytes_loop x.2.2.2.2.2.2.1 m.drives s7 _ H7 (St.mk' fun h' H' => (hM H').drives) (by omega) (by omega) fun s8 h8 H8 => ?_
  dsimp only
  refine ⟨x.2.2.2.2.2.2.2, (H8.box 1 rfl).cell rfl, ?_⟩
  rw [b8_wrap, hol]
  obtain ⟨acc, hacc2⟩ : ∃ acc, acc = ([] ++ highB m.seq 4) ++ highB m.next 4 ++ [b8 m.p.1, b8 m.p.2.1, b8 m.p.2.2, b8 m.extra, b8 (m.drives.length : Nat)] ++ m.drives.map b8 := ⟨_, rfl⟩
  rw [← hacc2] at H8
  have hal : acc.length = 13 + m.drives.length := by rw [hacc2]; simp [highB_len]; omega
  simp only [List.length_append, List.length_cons, List.length_nil, List.length_map, highB_len] at hplen
  refine H8.push C_ok 0 rfl eU8 rfl (by decide) (fun _ => rfl) one_u8 (b8 (m.objs.length : Nat)) rfl (by decide) (by omega) fun s9 h9 H9 => ?_
  have H9 : Sp h h9 [OwnA T_uint8 s9 1 u8v (acc ++ [b8 (m.objs.length : Nat)]), BoxA a1 T_api_Manifest (manL x)] := H9
  refine ⟨x.2.2.2.2.2.2.2, (H9.box 1 rfl).cell rfl, ?_⟩
  obtain ⟨ys, F0⟩ := EltL.fix hx.objs
  have hyl := F0.2.1
  refine loop_inv (fun t : Sl × Nat => (t.1, (t.2 : Int))) (fun t h' => t.2 ≤ m.objs.length ∧ Sp h h' [OwnA T_uint8 t.1 1 u8v (acc ++ [b8 (m.objs.length : Nat)] ++ (m.objs.take t.2).flatMap packE), BoxA a1 T_api_Manifest (manL x)]) (fun t => m.objs.length - t.2) (s9, 0) rfl ⟨by simp, by simpa using H9⟩ ?_
  rintro ⟨o, i⟩ h10 ⟨hi, H10⟩
  dsimp only at *
  refine br_dec (fun e => ?_) (fun e => ?_)
  · have hi' : i < m.objs.length := by omega
    have F10 := RdF.up F0 H10.pres
    have hes := ent_sz hm hi'
    have hsofar : ((m.objs.take i).flatMap packE).length ≤ 50000 := by
      have h1 := packs_len hm i hi
      have := objs_len hm
      have : i * 4000 ≤ 12 * 4000 := Nat.mul_le_mul_right _ (by omega)
      omega
    refine F10.1.getk (g := entv) i rfl (by omega) (ys[i]'(by omega)) rfl ?_
    refine H10.alloc C_ok rfl fun a29 h11 H11 => ?_
    refine H11.storeAll C_ok 2 rfl rfl (entv (ys[i]'(by omega))) rfl rfl rfl rfl fun h12 H12 => ?_
    have F12 := RdF.up F0 H12.pres
    obtain ⟨⟨y1, y2, y3⟩, y4⟩ := Fix.row F12 hi'
    obtain ⟨E, hE⟩ : ∃ E, E = m.objs[i] := ⟨_, rfl⟩
    rw [← hE] at y1 y2 y3 y4 hes
    have b12 := H12.box 2 rfl
    refine join_in ⟨E.name, by rw [← y1]; exact b12.cell0 rfl, E.name, by rw [← y1]; exact b12.cell0 rfl, ?_⟩
    rw [b8_wrap]
    refine H12.litHeld C_ok u8v eU8 rfl [b8 (E.name.size : Nat)] rfl (show 1 * 1 ≤ 2 ^ 20 by decide) rfl ⟨by rw [← y1]; exact b12.cell0 rfl, by rw [← y1]; exact b12.cell0 rfl, trivial⟩ ?_
    have hcur : (acc ++ [b8 (m.objs.length : Nat)] ++ (m.objs.take i).flatMap packE).length ≤ 160000 := by rw [List.length_append, List.length_append, hal]; simp; simp at hsofar; omega
    obtain ⟨cur, hcr⟩ : ∃ cur, cur = acc ++ [b8 (m.objs.length : Nat)] ++ (m.objs.take i).flatMap packE := ⟨_, rfl⟩
    rw [← hcr] at H12 hcur
    refine H12.push C_ok 0 rfl eU8 rfl (by decide) (fun _ => rfl) one_u8 (b8 (E.name.size : Nat)) rfl (by decide) (by omega) fun s13 h13 H13 => ?_
    have b13 := H13.box 2 rfl
    refine ⟨⟨by rw [← y1]; exact b13.cell0 rfl, by rw [← y1]; exact b13.cell0 rfl, trivial⟩, ?_⟩
    refine H13.appendStr C_ok 0 rfl eU8 ⟨_, rfl, rfl⟩ rfl (by decide) E.name (by simp; omega) fun s14 h14 H14 => ?_
    have b14 := H14.box 2 rfl
    refine ⟨⟨by rw [← y1]; exact b14.cell0 rfl, trivial⟩, ?_⟩
    have H14 : Sp h h14 [OwnA T_uint8 s14 1 u8v (cur ++ [b8 (E.name.size : Nat)] ++ strB E.name), BoxA a1 T_api_Manifest (manL x), BoxA a29 T_api_Entry (entv (ys[i]'(by omega)))] := H14
    refine join_in ⟨E.object, by rw [← y2]; exact b14.cell rfl, E.length, by rw [← y3]; exact b14.cell rfl, ?_⟩
    have hsb := strB_len E.name
    refine (number_spec s14 _ E.object 3 (by decide) (by simp; omega) H14).mono ?_
    rintro _ h15 ⟨s15, rfl, H15⟩
    have b15 := H15.box 2 rfl
    refine ⟨s15, rfl, ⟨by rw [← y3]; exact b15.cell rfl, trivial⟩, ?_⟩
    refine (number_spec s15 _ E.length 2 (by decide) (by simp [highB_len]; omega) H15).mono ?_
    rintro _ h16 ⟨s16, rfl, H16⟩
    have b16 := H16.box 2 rfl
    refine ⟨s16, rfl, trivial, (ys[i]'(by omega)).2.2.2, b16.cell rfl, ?_⟩
    refine bytes_loop (ys[i]'(by omega)).2.2.2 E.tries s16 _ H16 (St.mk' fun h' H' => by rw [hE]; exact (Fix.row (RdF.up F0 H'.pres) hi').2) (by simp [highB_len]; omega) (by omega) fun s17 h17 H17 => ?_
    dsimp only
    have h12 := objs_len hm
    refine ⟨(s17, i + 1), by dsimp only; rw [Go.Vc.wrap_small _ (by omega) (by omega)]; rfl, ⟨by dsimp only; omega, ?_⟩, by dsimp only; omega⟩
    dsimp only
    rw [take_snoc _ _ hi', List.flatMap_append, ← List.append_assoc, ← hcr, List.flatMap_cons, List.flatMap_nil, List.append_nil, ← hE]
    have e3 : cur ++ [b8 (E.name.size : Nat)] ++ strB E.name ++ highB E.object 3 ++ highB E.length 2 ++ E.tries.map b8 = cur ++ packE E := by
      unfold packE strB; simp [List.append_assoc]
    rw [e3] at H17
    exact H17.sel [0, 1]
  · rw [List.take_of_length_le (by omega)] at H10
    refine ⟨o, rfl, ?_⟩
    have e2 : acc ++ [b8 (m.objs.length : Nat)] ++ m.objs.flatMap packE = packM m := by
      rw [hacc2]; unfold packM; rw [hm, if_pos rfl]; simp [List.append_assoc]
    rw [e2] at H10
    exact H10.sel [0]
end Go.Proofs.YtmaknfkhibljfaaGreat
namespace Go.Vc
open Go Wl
def PoolG {α : Type} (k : Nat) (f : α → List Value) (L : List (Sl × List α)) : HP := ⟨fun h q => ∀ y ∈ L, Seq h q y.1 k f y.2, fun a hp y hy => (a y hy).pres hp, fun a hq y hy => (a y hy).mono hq⟩
section
variable {α : Type} {B : Blocks} {h0 h : Heap} {As : List HP} {k : Nat} {f : α → List Value} {L : List (Sl × List α)} {s : Sl} {l : List α}
theorem SpB.poolNew (H : SpB B h0 h As) (k : Nat) (f : α → List Value) : SpB B h0 h (PoolG k f [] :: As) :=
  (H.comp (.one (A := PoolG k f []) (Pres.refl _ _) (fun y hy => by cases hy))).front1
theorem SpB.poolPut (H : SpB B h0 h (PoolG k f L :: SeqA s k f l :: As)) : SpB B h0 h (PoolG k f ((s, l) :: L) :: As) := by
  have H1 : SpB B h0 h ((SeqA s k f l).sep (PoolG k f L) :: As) := H.join0
  refine H1.weak 0 rfl fun q ⟨q1, q2, _, b, c, d, e⟩ y hy => ?_
  rcases List.mem_cons.1 hy with rfl | hy
  · exact d.mono b
  · exact (e y hy).mono c
end
end Go.Vc
namespace Go.Proofs.YtmaknfkhibljfaaGreat
open Go Go.Vc Go.Proofs Wl
set_option maxRecDepth 100000
theorem highB4 (n : Int) : highB n 4 = [b8 (Int.fdiv n (2 ^ 24)), b8 (Int.fdiv n (2 ^ 16)), b8 (Int.fdiv n (2 ^ 8)), b8 n] := by
  have e : Int.fdiv n (2 ^ 0) = n := by simp
  show [b8 (Int.fdiv n (2 ^ 24)), b8 (Int.fdiv n (2 ^ 16)), b8 (Int.fdiv n (2 ^ 8)), b8 (Int.fdiv n (2 ^ 0))] = _
  rw [e]
theorem pput_spec (seq number many : Int) (b : Sl) (l : List UInt8) (h : Heap) (hb : Rd h b 1 u8v l) (hl : l.length ≤ 2 ^ 20) : Meets Tryz.prog page_put_id #[.int .i64 seq, .int .i64 number, .int .i64 many, .slice b.ptr b.len b.cap] h fun v h' => ∃ r : Sl, v = .slice r.ptr r.len r.cap ∧ Sp h h' [OwnA T_uint8 r 1 u8v (putPage seq number many l)] := by
  refine page_put_run seq number many b ?_
  unfold page_put_m
  refine ⟨by decide, by decide, by decide, ?_⟩
  have e24 : min (24 : Int).toNat (IntKind.bits .i64) = 24 := rfl
  have e16 : min (16 : Int).toNat (IntKind.bits .i64) = 16 := rfl
  have e8 : min (8 : Int).toNat (IntKind.bits .i64) = 8 := rfl
  rw [e24, e16, e8, b8_wrap, b8_wrap, b8_wrap, b8_wrap, b8_wrap, b8_wrap, b8_wrap]
  have hh4 := highB4 seq
  generalize b8 (Int.fdiv seq (2 ^ 24)) = c1 at hh4 ⊢
  generalize b8 (Int.fdiv seq (2 ^ 16)) = c2 at hh4 ⊢
  generalize b8 (Int.fdiv seq (2 ^ 8)) = c3 at hh4 ⊢
  generalize b8 seq = c4 at hh4 ⊢
  have hpp : putPage seq number many l = putCell 2 ([c1, c2, c3, c4] ++ ([b8 number, b8 many, b8 (b.len : Nat)] ++ l)) := by unfold putPage; rw [hh4, hb.len]
  generalize b8 number = c5 at hpp ⊢
  generalize b8 many = c6 at hpp ⊢
  generalize b8 (b.len : Nat) = c7 at hpp ⊢
  refine (Sp.refl h).lit C_ok u8v eU8 rfl [c1, c2, c3, c4, c5, c6, c7] rfl (show 7 * 1 ≤ 2 ^ 20 by decide) (by kernel_rfl) fun v1 h1 H1 => ?_
  refine H1.append C_ok 0 rfl eU8 ⟨_, _, rfl, rfl⟩ rfl (by decide) (fun _ => rfl) (Seq.up hb H1.pres) one_u8 (by simp; omega) fun v2 h2 H2 => ?_
  have hq : Rd h2 v2 1 u8v ([c1, c2, c3, c4, c5, c6, c7] ++ l) := H2.seq 0 rfl fun _ => rfl
  have hql : ([c1, c2, c3, c4, c5, c6, c7] ++ l).length ≤ 2 ^ 40 := by simp; omega
  rw [hpp]
  have hee : [c1, c2, c3, c4, c5, c6, c7] ++ l = [c1, c2, c3, c4] ++ ([c5, c6, c7] ++ l) := rfl
  rw [← hee]
  generalize [c1, c2, c3, c4, c5, c6, c7] ++ l = ll at hq hql ⊢
  refine (cput_spec 2 v2 ll h2 hq hql).mono ?_
  rintro _ h3 ⟨r, rfl, R3⟩
  exact ⟨r, rfl, r, rfl, (SpB.comp (Sp.zip H2.pres) R3)⟩
theorem split_spec (x : ManV) (m : Mani) (h : Heap) (hx : RdM h x m) (hz : ManSz m) : Meets Tryz.prog page_Split_id #[manv x] h fun v h' => ∃ r : Sl, v = .slice r.ptr r.len r.cap ∧ Sp h h' [RowsD r (splitM m)] := by
  refine page_Split_run x ?_
  unfold page_Split_m
  refine (Sp.refl h).boxed fun a1 h1 H1 => ?_
  refine ⟨x, (H1.box 0 rfl).cells0 _ rfl, (pack_spec x m h1 (hx.up H1.pres) hz).mono ?_⟩
  rintro _ h2 ⟨b, rfl, R2⟩
  have H2 := H1.comp R2
  have hpl := pack_len m hz
  obtain ⟨l, hl⟩ : ∃ l, l = packM m := ⟨_, rfl⟩
  rw [← hl] at H2 hpl
  have hbl := (H2.own 1 rfl).len
  have hbc := (H2.own 1 rfl).cap
  refine ⟨b, rfl, by decide, ?_⟩
  have hmany : IntKind.wrap .i64 (Int.tdiv (IntKind.wrap .i64 ((IntKind.wrap .i64 (((b.len : Nat) : Int) + (48 : Int))) - (1 : Int))) (48 : Int)) = (manyP l : Int) := by
    rw [Go.Vc.wrap_small ((b.len : Int) + 48) (by omega) (by omega), Go.Vc.wrap_small ((b.len : Int) + 48 - 1) (by omega) (by omega), Int.tdiv_eq_ediv_of_nonneg (by omega)]
    unfold manyP
    rw [Go.Vc.wrap_small (((b.len : Int) + 48 - 1) / 48) (by omega) (by omega)]
    omega
  have hmn : manyP l ≤ 3000 := by unfold manyP; omega
  rw [hmany]
  obtain ⟨pg, hpg⟩ : ∃ pg : List (List UInt8), pg = splitM m := ⟨_, rfl⟩
  have hpgl : pg.length = manyP l := by rw [hpg, hl]; simp [splitM]
  have H3 : Sp h h2 [RowsD ⟨none, 0, 0⟩ (pg.take 0), BoxA a1 T_api_Manifest (manL x), OwnA T_uint8 b 1 u8v l] := H2.wNil T_sl_uint8 T_uint8 1 u8v
  refine loop_inv (fun t : Sl × Nat => (t.1, (t.2 : Int))) (fun t h' => t.2 ≤ manyP l ∧ Sp h h' [RowsD t.1 (pg.take t.2), BoxA a1 T_api_Manifest (manL x), OwnA T_uint8 b 1 u8v l]) (fun t => manyP l - t.2) (⟨none, 0, 0⟩, 0) rfl ⟨by simp, H3⟩ ?_
  rintro ⟨o, i⟩ h3 ⟨hi, H3⟩
  dsimp only at *
  refine br_dec (fun e => ?_) (fun e => ?_)
  · have hi' : i < manyP l := by omega
    have hi48 : 48 * i < l.length := by unfold manyP at hi'; omega
    rw [Go.Vc.wrap_small ((i : Int) * 48) (by omega) (by omega), Go.Vc.wrap_small ((i : Int) + 1) (by omega) (by omega), Go.Vc.wrap_small (((i : Int) + 1) * 48) (by omega) (by omega)]
    obtain ⟨en, hen⟩ : ∃ en : Nat, en = min (48 * i + 48) l.length := ⟨_, rfl⟩
    have hif : (if ((i : Int) + 1) * 48 < ((b.len : Nat) : Int) then ((i : Int) + 1) * 48 else ((b.len : Nat) : Int)) = (en : Int) := by
      split <;> omega
    rw [hif]
    refine ⟨m.seq, by rw [← hx.seq]; exact (H3.box 1 rfl).cell0 rfl, ⟨by omega, by omega, by omega⟩, ?_⟩
    have e1 : ((i : Int) * 48).toNat = 48 * i := by omega
    rw [e1, Int.toNat_natCast]
    have hd := ((H3.seq 2 rfl fun _ => rfl).drop (48 * i) hbc).take (en - 48 * i) (by rw [List.length_drop]; omega)
    have e2 : (l.drop (48 * i)).take (en - 48 * i) = (l.drop (48 * i)).take 48 := by
      by_cases hh : 48 * i + 48 ≤ l.length
      · rw [show en - 48 * i = 48 by omega]
      · rw [List.take_of_length_le (by rw [List.length_drop]; omega), List.take_of_length_le (by rw [List.length_drop]; omega)]
    rw [e2, Nat.mul_one] at hd
    refine (pput_spec m.seq i (manyP l) ⟨_, en - 48 * i, b.cap - 48 * i⟩ _ h3 (by rw [Nat.mul_one]; exact hd) (by simp; omega)).mono ?_
    rintro _ h4 ⟨r, rfl, R4⟩
    have H4 := (H3.comp1 R4).selT 4 [1, 0, 2, 3]
    refine ⟨r, rfl, trivial, ?_⟩
    refine H4.litHeld C_ok slv eSlU8 rfl [r] rfl (show 1 * 1 ≤ 2 ^ 20 by decide) rfl trivial ?_
    refine H4.wPush C_ok eSlU8 (by simp; omega) fun o' h5 H5 => ⟨trivial, ?_⟩
    refine ⟨(o', i + 1), rfl, ⟨by dsimp only; omega, ?_⟩, by dsimp only; omega⟩
    dsimp only
    rw [take_snoc _ _ (show i < pg.length by omega)]
    have e3 : pg[i]'(by omega) = putPage m.seq i (manyP l) ((l.drop (48 * i)).take 48) := by
      subst hpg; subst hl; simp [splitM]
    rw [e3]
    exact H5
  · rw [List.take_of_length_le (by omega), hpg] at H3
    exact ⟨o, rfl, H3.sel [0]⟩
theorem cloneE_spec (s : Sl) (ys : List EntH) (h : Heap) (hs : Rd h s 4 entv ys) (hsz : ys.length ≤ 2 ^ 30) : Meets Tryz.prog slices_Clone_api_Entry_api_Entry_id #[.slice s.ptr s.len s.cap] h fun v h' => ∃ r : Sl, v = .slice r.ptr r.len r.cap ∧ Sp h h' [OwnA T_api_Entry r 4 entv ys] := by
  refine slices_Clone_api_Entry_api_Entry_run s ?_
  unfold slices_Clone_api_Entry_api_Entry_m
  refine br_b (fun e => ?_) (fun e => ?_)
  · have := hs.isNil e
    subst this
    exact ⟨⟨none, 0, 0⟩, rfl, (Sp.refl h).nil T_api_Entry 4 entv⟩
  · refine (Sp.refl h).lit C_ok entv eEnt rfl ([] : List EntH) rfl (by decide) rfl fun v1 h1 H1 => ?_
    refine H1.append C_ok 0 rfl eEnt ⟨_, _, rfl, rfl⟩ rfl (by decide) (fun _ => rfl) (Seq.up hs H1.pres) one_ent (by simp; omega) fun v2 h2 H2 => ?_
    exact ⟨v2, rfl, H2⟩
theorem own_m_spec (x : ManV) (m : Mani) (h : Heap) (hx : RdM h x m) (hz : ManSz m) : Meets Tryz.prog mani_Own_id #[manv x] h fun v h' => ∃ y : ManV, v = manv y ∧ Sp h h' [ManA y m] := by
  refine mani_Own_run x ?_
  unfold mani_Own_m
  refine (Sp.refl h).boxed fun a1 h1 H1 => ?_
  refine H1.alloc C_ok rfl fun a2 h2 H2 => ?_
  have hb2 := H2.box 0 rfl
  have hM : ∀ {h' : Heap} {As : List HP}, Sp h h' As → RdM h' x m := fun {h' As} H' => hx.up H'.pres
  obtain ⟨ys, F0⟩ := EltL.fix hx.objs
  have hyl := F0.2.1
  have hdr := hz.dr
  have hob := hz.ob
  refine join_in ⟨x.2.2.2.2.2.2.1, hb2.cell rfl, x.2.2.2.2.2.2.2, hb2.cell rfl, ?_⟩
  refine (clone_int_spec _ m.drives h2 (hM H2).drives (by omega)).mono ?_
  rintro _ h3 ⟨d, rfl, R3⟩
  have H3 := H2.comp R3
  refine ⟨d, rfl, ⟨(H3.box 0 rfl).cell rfl, trivial⟩, ?_⟩
  refine (cloneE_spec _ ys h3 (RdF.up F0 H3.pres).1 (by omega)).mono ?_
  rintro _ h4 ⟨o, rfl, R4⟩
  have H4 := H3.comp R4
  refine ⟨o, rfl, trivial, ?_⟩
  refine H4.store C_ok 0 rfl rfl 6 [.slice d.ptr d.len d.cap] rfl rfl rfl (by simp [Value.cells]) fun h5 H5 => ⟨trivial, ?_⟩
  refine H5.store C_ok 0 rfl rfl 7 [.slice o.ptr o.len o.cap] rfl rfl rfl (by simp [Value.cells]) fun h6 H6 => ⟨trivial, ?_⟩
  obtain ⟨y, hy⟩ : ∃ y : ManV, y = (x.1, x.2.1, x.2.2.1, x.2.2.2.1, x.2.2.2.2.1, x.2.2.2.2.2.1, d, o) := ⟨_, rfl⟩
  have H6 : Sp h h6 [BoxA a1 T_api_Manifest (manL y), BoxA a2 T_api_Manifest [.int .i64 0, .int .i64 0, .int .i64 0, .int .i64 0, .int .i64 0, .int .i64 0, .slice none 0 0, .slice none 0 0], OwnA T_int d 1 intv m.drives, OwnA T_api_Entry o 4 entv ys] := by rw [hy]; exact H6
  have hyo : y.2.2.2.2.2.2.2 = o := by rw [hy]
  have hyd : y.2.2.2.2.2.2.1 = d := by rw [hy]
  refine ⟨o, by rw [← hyo]; exact (H6.box 0 rfl).cell rfl, ?_⟩
  have hol := (H6.own 3 rfl).len
  have H6 := H6.poolNew 1 intv
  refine loop_inv (fun t : List EntH × List (Sl × List Int) => (t.1.length : Int)) (fun t h' => t.1.length ≤ m.objs.length ∧ (∀ (j : Nat) r e, t.1[j]? = some r → m.objs[j]? = some e → (r.1 = e.name ∧ r.2.1 = e.object ∧ r.2.2.1 = e.length) ∧ (r.2.2.2, e.tries) ∈ t.2) ∧ Sp h h' [PoolG 1 intv t.2, BoxA a1 T_api_Manifest (manL y), BoxA a2 T_api_Manifest [.int .i64 0, .int .i64 0, .int .i64 0, .int .i64 0, .int .i64 0, .int .i64 0, .slice none 0 0, .slice none 0 0], OwnA T_int d 1 intv m.drives, OwnA T_api_Entry o 4 entv (t.1 ++ ys.drop t.1.length)]) (fun t => m.objs.length - t.1.length) ([], []) rfl ⟨by simp, fun j r e h1 => by simp at h1, H6⟩ ?_
  rintro ⟨ns, pool⟩ h7 ⟨hi, hns, H7⟩
  dsimp only at *
  refine br_dec (fun e => ?_) (fun e => ?_)
  · have hi' : ns.length < m.objs.length := by omega
    have F7 := RdF.up F0 H7.pres
    obtain ⟨⟨y1, y2, y3⟩, y4⟩ := Fix.row F7 hi'
    have hhead : (ns ++ ys.drop ns.length)[ns.length]'(by simp; omega) = ys[ns.length]'(by omega) := by simp
    obtain ⟨a12, ha, zz, hc, rfl⟩ := (H7.seq 4 rfl fun _ => rfl).getk (g := entv) (i := (ns.length : Int)) ns.length rfl (by simp; omega) (ys[ns.length]'(by omega)) (by rw [hhead]) (K := fun t => t = ys[ns.length]'(by omega)) rfl
    refine ⟨o, by rw [← hyo]; exact (H7.box 1 rfl).cell rfl, o, by rw [← hyo]; exact (H7.box 1 rfl).cell rfl, a12, ha, _, hc.2.2.2.1, ?_⟩
    have htr := (hz.nm _ (List.getElem_mem hi')).2
    refine (clone_int_spec _ m.objs[ns.length].tries h7 y4 (by omega)).mono ?_
    rintro _ h8 ⟨t, rfl, R8⟩
    have H8 := H7.comp1 R8
    refine ⟨t, rfl, ⟨by rw [← hyo]; exact (H8.box 2 rfl).cell rfl, by rw [← hyo]; exact (H8.box 2 rfl).cell rfl, trivial⟩, ?_⟩
    refine H8.setF C_ok 5 rfl (fun _ => rfl) rfl ns.length rfl (by simp; omega) 3 [.slice t.ptr t.len t.cap] (by simp) ((ys[ns.length]'(by omega)).1, (ys[ns.length]'(by omega)).2.1, (ys[ns.length]'(by omega)).2.2.1, t) rfl rfl rfl (by rw [hhead]; simp [entv]) fun h9 H9 => ⟨trivial, ?_⟩
    have H9 := (H9.freeze 0 rfl fun _ => rfl).selT 6 [1, 0, 2, 3, 4, 5]
    have H9 := H9.poolPut
    refine ⟨(ns ++ [((ys[ns.length]'(by omega)).1, (ys[ns.length]'(by omega)).2.1, (ys[ns.length]'(by omega)).2.2.1, t)], (t, m.objs[ns.length].tries) :: pool), by simp only [List.length_append, List.length_singleton]; rw [Go.Vc.wrap_small _ (by omega) (by omega)]; rfl, ⟨by simp; omega, fun j r e h1 h2 => ?_, ?_⟩, by simp; omega⟩
    · dsimp only at h1 ⊢
      by_cases hj : j < ns.length
      · rw [List.getElem?_append_left hj] at h1
        obtain ⟨g1, g2⟩ := hns j r e h1 h2
        exact ⟨g1, List.mem_cons_of_mem _ g2⟩
      · have hje : j = ns.length := by
          have := (List.getElem?_eq_some_iff.1 h1).1
          simp at this; omega
        subst hje
        rw [List.getElem?_append_right (Nat.le_refl _), Nat.sub_self] at h1
        simp at h1
        rw [List.getElem?_eq_getElem hi'] at h2
        injection h2 with h2
        subst h1; subst h2
        exact ⟨⟨y1, y2, y3⟩, List.mem_cons_self⟩
    · dsimp only
      have e4 : (ns ++ ys.drop ns.length).set ns.length ((ys[ns.length]'(by omega)).1, (ys[ns.length]'(by omega)).2.1, (ys[ns.length]'(by omega)).2.2.1, t) = ns ++ [((ys[ns.length]'(by omega)).1, (ys[ns.length]'(by omega)).2.1, (ys[ns.length]'(by omega)).2.2.1, t)] ++ ys.drop (ns ++ [((ys[ns.length]'(by omega)).1, (ys[ns.length]'(by omega)).2.1, (ys[ns.length]'(by omega)).2.2.1, t)]).length := by
        rw [List.set_append_right _ _ (Nat.le_refl _), Nat.sub_self, List.drop_eq_getElem_cons (show ns.length < ys.length by omega), List.set_cons_zero]
        simp
      rw [← e4]
      exact H9
  · have hnl : ns.length = m.objs.length := by omega
    rw [List.drop_of_length_le (by omega), List.append_nil] at H7
    refine ⟨y, (H7.box 1 rfl).cells0 _ rfl, ?_⟩
    refine H7.storeAll C_ok 2 rfl rfl (manL y) rfl rfl rfl rfl fun h8 H8 => ?_
    refine ⟨y, (H8.box 2 rfl).cells0 _ rfl, y, rfl, ?_⟩
    have hoc := (H8.own 4 rfl)
    have hdc := (H8.own 3 rfl)
    have H9 := (((H8.freeze 3 rfl fun _ => rfl).freeze 4 rfl fun _ => rfl).sel [0, 3, 4]).join0.join0
    refine H9.weak 0 rfl fun q ⟨q1, q2, _, b, c, z1, z2⟩ => ?_
    obtain ⟨q3, q4, _, b', c', z3, z4⟩ := z2
    refine ⟨by rw [hy]; exact hx.seq, by rw [hy]; exact hx.next, by rw [hy]; exact hx.p, by rw [hy]; exact hx.extra, ?_, ?_, by rw [hyd]; exact hdc.cap, by rw [hyo]; exact hoc.cap⟩
    · rw [hyd]; exact z3.mono fun x hx => c x (b' x hx)
    · rw [hyo]
      refine ⟨ns, z1.mono b, hnl, fun j r e h1 h2 => ?_⟩
      obtain ⟨g1, g2⟩ := hns j r e h1 h2
      exact ⟨g1, (z4 _ g2).mono fun x hx => c x (c' x hx)⟩
end Go.Proofs.YtmaknfkhibljfaaGreat
namespace Go.Vc
open Go Wl
abbrev RecV := Int × Int × Int × Int × Int × Int × Int × Sl
end Go.Vc
namespace Go.Proofs.YtmaknfkhibljfaaGreat
open Go Go.Vc Go.Proofs Wl
set_option maxRecDepth 100000
section
variable {B : Blocks} {h0 h h' : Heap} {As : List HP} {s : Sl} {d : List RecV}
end
end Go.Proofs.YtmaknfkhibljfaaGreat
namespace Wl
open Go
end Wl
namespace Go.Vc
open Go Wl
end Go.Vc
namespace Go.Proofs.YtmaknfkhibljfaaGreat
open Go Go.Vc Go.Proofs Wl
set_option maxRecDepth 100000
theorem bytesEq_spec {p q : Blocks} (a b : Sl) (la lb : List UInt8) (h : Heap) (ha : Seq h p a 1 u8v la) (hb : Seq h q b 1 u8v lb) :
    Meets Tryz.prog bytes_Equal_id #[.slice a.ptr a.len a.cap, .slice b.ptr b.len b.cap] h fun v h' => v = .bool (decide (la = lb)) ∧ h' = h := by
  refine bytes_Equal_run a b ?_
  unfold bytes_Equal_m
  refine run_b2s C_ok ⟨_, rfl, rfl⟩ ⟨_, rfl, rfl⟩ ⟨_, rfl, rfl⟩ ha (run_b2s C_ok ⟨_, rfl, rfl⟩ ⟨_, rfl, rfl⟩ ⟨_, rfl, rfl⟩ hb ⟨?_, rfl⟩)
  rw [ByteArray.toList_mk, ByteArray.toList_mk]
  have : (la == lb) = decide (la = lb) := by rw [Bool.eq_iff_iff]; simp
  rw [this]
section
variable {B : Blocks} {h0 h h' : Heap} {As : List HP}
end
end Go.Proofs.YtmaknfkhibljfaaGreat
namespace Go.Vc
open Go Wl Go.Proofs.YtmaknfkhibljfaaGreat
section
variable {B : Blocks} {h0 h h' : Heap} {As L : List HP} {X Y Z : HP}
theorem SpB.bury2 (H : SpB B h0 h (X :: Y :: (L ++ As))) : SpB B h0 h (L ++ (X :: Y :: As)) :=
  H.pick (fun i => if i < L.length then i + 2 else if i = L.length then 0 else if i = L.length + 1 then 1 else i) (fun a b hab => by (try dsimp only at hab); split at hab <;> split at hab <;> (try split at hab) <;> (try split at hab) <;> (try split at hab) <;> (try split at hab) <;> omega) fun i A hi => by
    try dsimp only
    by_cases hl : i < L.length
    · rw [List.getElem?_append_left hl] at hi
      rw [if_pos hl, List.getElem?_cons_succ, List.getElem?_cons_succ, List.getElem?_append_left hl]; exact hi
    · rw [List.getElem?_append_right (by omega)] at hi
      rw [if_neg hl]
      by_cases h0' : i = L.length
      · subst h0'; rw [if_pos rfl]; rw [Nat.sub_self] at hi; exact hi
      · rw [if_neg h0']
        by_cases h1' : i = L.length + 1
        · subst h1'; rw [if_pos rfl]; rw [show L.length + 1 - L.length = 1 by omega] at hi; exact hi
        · rw [if_neg h1']
          obtain ⟨j, rfl⟩ : ∃ j, i = L.length + (j + 2) := ⟨i - L.length - 2, by omega⟩
          rw [Nat.add_sub_cancel_left, List.getElem?_cons_succ, List.getElem?_cons_succ] at hi
          rw [show L.length + (j + 2) = (L.length + j) + 1 + 1 by omega, List.getElem?_cons_succ, List.getElem?_cons_succ, List.getElem?_append_right (by omega), Nat.add_sub_cancel_left]; exact hi
theorem SpB.takeOut (n : Nat) (hn : L[n]? = some X) (H : SpB B h0 h (Y :: Z :: (L ++ As))) : SpB B h0 h (X :: Z :: Y :: (L.set n emp ++ As)) := by
  have hlt := (List.getElem?_eq_some_iff.1 hn).1
  have H1 := H.cons (n + 2) (A := X) (by rw [List.getElem?_cons_succ, List.getElem?_cons_succ, List.getElem?_append_left hlt]; exact hn)
  have e : (Y :: Z :: (L ++ As)).set (n + 2) emp = Y :: Z :: (L.set n emp ++ As) := by
    rw [List.set_cons_succ, List.set_cons_succ, List.set_append_left _ _ hlt]
  rw [e] at H1
  exact H1.selT 3 [0, 2, 1]
theorem SpB.putBack (n : Nat) (hn : n < L.length) (H : SpB B h0 h (X :: Z :: Y :: (L.set n emp ++ As))) : SpB B h0 h (Y :: Z :: (L.set n X ++ As)) :=
  H.pick (fun i => if i = 0 then 2 else if i = 1 then 1 else if i = n + 2 then 0 else i + 1) (fun a b hab => by (try dsimp only at hab); split at hab <;> split at hab <;> (try split at hab) <;> (try split at hab) <;> (try split at hab) <;> (try split at hab) <;> omega) fun i A hi => by
    try dsimp only
    match i, hi with
    | 0, hi => exact hi
    | 1, hi => exact hi
    | i + 2, hi =>
      rw [if_neg (by omega), if_neg (by omega)]
      rw [List.getElem?_cons_succ, List.getElem?_cons_succ] at hi
      by_cases hin : i = n
      · subst hin
        rw [List.getElem?_append_left (by simpa using hn), List.getElem?_set_self hn] at hi
        rw [if_pos rfl]; exact hi
      · rw [if_neg (by omega), List.getElem?_cons_succ, List.getElem?_cons_succ, List.getElem?_cons_succ]
        by_cases hl : i < L.length
        · rw [List.getElem?_append_left (by simpa using hl), List.getElem?_set_ne (by omega)] at hi
          rw [List.getElem?_append_left (by simpa using hl), List.getElem?_set_ne (by omega)]; exact hi
        · rw [List.getElem?_append_right (by simp; omega), List.length_set] at hi
          rw [List.getElem?_append_right (by simp; omega), List.length_set]; exact hi
end
structure Kit where
  tS : Nat
  tP : Nat
  tD : Nat
  f : Addr → Drv → Sl → Sl → List Value
def drvO (k : Kit) (pw : Addr) (a : Option Addr) (d : Option Drv) : HP := match a, d with
  | some a, some d => DrvG k.tD (k.f pw) a d
  | _, _ => emp
abbrev storC (mc : List Value) (pw : Addr) (offs : Int) (da : List (Option Addr)) : List Value := mc ++ (.pointer (some pw) :: .int .i64 offs :: da.map .pointer)
structure CoreOk (mc : List Value) (da : List (Option Addr)) (ds : Drvs) : Prop where
  l8 : mc.length = 8
  la : da.length = 64
  ls : ds.length = 64
  same : ∀ i : Nat, (da.getD i none).isSome = (ds.getD i none).isSome
abbrev drvL (k : Kit) (pw : Addr) (da : List (Option Addr)) (ds : Drvs) : List HP := List.zipWith (drvO k pw) da ds
def CoreA (k : Kit) (a pw : Addr) (mc : List Value) (offs : Int) (da : List (Option Addr)) (w : Pow) (ds : Drvs) : HP :=
  (HP.all (BoxA a k.tS (storC mc pw offs da) :: PowA k.tP pw w :: drvL k pw da ds)).and (CoreOk mc da ds)
section
variable {k : Kit} {B : Blocks} {h0 h h' : Heap} {As : List HP} {a pw : Addr} {mc : List Value} {offs : Int} {da : List (Option Addr)} {w w' : Pow} {ds : Drvs} {d d' : Drv} {n : Nat}
theorem drvL_len (ok : CoreOk mc da ds) : (drvL k pw da ds).length = 64 := by simp [drvL, ok.la, ok.ls]
theorem SpB.coreOpen (H : SpB B h0 h (CoreA k a pw mc offs da w ds :: As)) : CoreOk mc da ds ∧ SpB B h0 h (BoxA a k.tS (storC mc pw offs da) :: PowA k.tP pw w :: (drvL k pw da ds ++ As)) := by
  obtain ⟨H, ok⟩ := H.and0
  exact ⟨ok, H.openAll⟩
theorem SpB.coreClose (ok : CoreOk mc da ds) (H : SpB B h0 h (BoxA a k.tS (storC mc pw offs da) :: PowA k.tP pw w :: (drvL k pw da ds ++ As))) : SpB B h0 h (CoreA k a pw mc offs da w ds :: As) :=
  (SpB.closeAll (BoxA a k.tS (storC mc pw offs da) :: PowA k.tP pw w :: drvL k pw da ds) H).toand0 ok
theorem CoreOk.addr (ok : CoreOk mc da ds) (hd : ds[n]? = some (some d)) : ∃ b, da[n]? = some (some b) := by
  have hn : n < 64 := by have := (List.getElem?_eq_some_iff.1 hd).1; rw [ok.ls] at this; exact this
  have h1 := ok.same n
  rw [List.getD_eq_getElem?_getD, List.getD_eq_getElem?_getD, hd] at h1
  have h2 : n < da.length := by rw [ok.la]; exact hn
  rw [List.getElem?_eq_getElem h2] at h1 ⊢
  simp at h1
  obtain ⟨b, hb⟩ := Option.isSome_iff_exists.1 h1
  exact ⟨b, by rw [hb]⟩
theorem CoreOk.noAddr (ok : CoreOk mc da ds) (hn : n < 64) (hd : ds[n]? = some none) : da[n]? = some none := by
  have h1 := ok.same n
  rw [List.getD_eq_getElem?_getD, List.getD_eq_getElem?_getD, hd] at h1
  have h2 : n < da.length := by rw [ok.la]; exact hn
  rw [List.getElem?_eq_getElem h2] at h1 ⊢
  simp at h1
  rw [h1]
theorem CoreOk.set (ok : CoreOk mc da ds) {b : Addr} (hb : da[n]? = some (some b)) : CoreOk mc da (ds.set n (some d')) := by
  refine ⟨ok.l8, ok.la, by rw [List.length_set]; exact ok.ls, fun i => ?_⟩
  by_cases hin : n = i
  · subst hin
    have hn : n < ds.length := by have := (List.getElem?_eq_some_iff.1 hb).1; rw [ok.la] at this; rw [ok.ls]; exact this
    rw [List.getD_eq_getElem?_getD, hb, List.getD_eq_getElem?_getD, List.getElem?_set_self hn]; rfl
  · rw [List.getD_eq_getElem?_getD (l := ds.set n _), List.getElem?_set_ne hin, ← List.getD_eq_getElem?_getD]; exact ok.same i
theorem drvL_set {b : Addr} (hb : da[n]? = some (some b)) (hn : n < ds.length) : (drvL k pw da ds).set n (DrvG k.tD (k.f pw) b d') = drvL k pw da (ds.set n (some d')) := by
  apply List.ext_getElem?
  intro j
  have hna : n < da.length := (List.getElem?_eq_some_iff.1 hb).1
  simp only [drvL, List.getElem?_set, List.getElem?_zipWith, List.length_zipWith]
  by_cases hij : n = j
  · subst hij
    rw [if_pos rfl, if_pos (by omega), if_pos rfl, if_pos hn, hb]; rfl
  · simp [hij]
def HoleA (k : Kit) (a pw : Addr) (mc : List Value) (offs : Int) (da : List (Option Addr)) (ds : Drvs) (n : Nat) : HP :=
  (HP.all (BoxA a k.tS (storC mc pw offs da) :: (drvL k pw da ds).set n emp)).and (CoreOk mc da ds)
theorem SpB.coreDrive (H : SpB B h0 h (CoreA k a pw mc offs da w ds :: As)) (hd : ds[n]? = some (some d)) : ∃ b, da[n]? = some (some b) ∧ SpB B h0 h (DrvG k.tD (k.f pw) b d :: PowA k.tP pw w :: HoleA k a pw mc offs da ds n :: As) := by
  obtain ⟨ok, H1⟩ := H.coreOpen
  obtain ⟨b, hb⟩ := ok.addr hd
  refine ⟨b, hb, ?_⟩
  have hX : (drvL k pw da ds)[n]? = some (DrvG k.tD (k.f pw) b d) := by
    simp only [drvL, List.getElem?_zipWith, hb, hd]; rfl
  have H2 := H1.takeOut n hX
  have H3 : SpB B h0 h (DrvG k.tD (k.f pw) b d :: PowA k.tP pw w :: ((BoxA a k.tS (storC mc pw offs da) :: (drvL k pw da ds).set n emp) ++ As)) := H2
  exact (((SpB.closeAll _ H3.bury2).toand0 ok).selT 3 [1, 2, 0] : SpB B h0 h (DrvG k.tD (k.f pw) b d :: PowA k.tP pw w :: HoleA k a pw mc offs da ds n :: As))
theorem SpB.coreBack {b : Addr} (hb : da[n]? = some (some b)) (H : SpB B h0 h (DrvG k.tD (k.f pw) b d' :: PowA k.tP pw w' :: HoleA k a pw mc offs da ds n :: As)) : SpB B h0 h (CoreA k a pw mc offs da w' (ds.set n (some d')) :: As) := by
  have H1 : SpB B h0 h (HoleA k a pw mc offs da ds n :: PowA k.tP pw w' :: DrvG k.tD (k.f pw) b d' :: As) := H.selT 3 [2, 1, 0]
  obtain ⟨H1, ok⟩ := H1.and0
  have H2 := H1.openAll
  have hn : n < ds.length := by have := (List.getElem?_eq_some_iff.1 hb).1; rw [ok.la] at this; rw [ok.ls]; exact this
  have hl := drvL_len (k := k) (pw := pw) ok
  have hln : n < (drvL k pw da ds).length := by rw [hl, ← ok.ls]; exact hn
  obtain ⟨L, hL⟩ : ∃ L, L = drvL k pw da ds := ⟨_, rfl⟩
  rw [← hL] at H2 hln
  have H3 : SpB B h0 h (DrvG k.tD (k.f pw) b d' :: PowA k.tP pw w' :: BoxA a k.tS (storC mc pw offs da) :: (L.set n emp ++ As)) := by
    refine H2.pick (fun i => if i = 0 then 1 + L.length + 1 else if i = 1 then 1 + L.length else if i = 2 then 0 else if i < 3 + L.length then i - 2 else i) (fun x y hab => by (try dsimp only at hab); split at hab <;> split at hab <;> (try split at hab) <;> (try split at hab) <;> (try split at hab) <;> (try split at hab) <;> (try split at hab) <;> (try split at hab) <;> omega) fun i A hi => ?_
    try dsimp only
    have hlen : (BoxA a k.tS (storC mc pw offs da) :: L.set n emp).length = 1 + L.length := by simp; omega
    match i, hi with
    | 0, hi => rw [if_pos rfl, List.getElem?_append_right (by omega), hlen, show 1 + L.length + 1 - (1 + L.length) = 1 by omega]; exact hi
    | 1, hi => rw [if_neg (by omega), if_pos rfl, List.getElem?_append_right (by omega), hlen, Nat.sub_self]; exact hi
    | 2, hi => rw [if_neg (by omega), if_neg (by omega), if_pos rfl]; exact hi
    | i + 3, hi =>
      rw [if_neg (by omega), if_neg (by omega), if_neg (by omega)]
      rw [List.getElem?_cons_succ, List.getElem?_cons_succ, List.getElem?_cons_succ] at hi
      by_cases hil : i < L.length
      · rw [if_pos (by omega), show i + 3 - 2 = i + 1 by omega, List.getElem?_append_left (by rw [hlen]; omega), List.getElem?_cons_succ]
        rw [List.getElem?_append_left (by simpa using hil)] at hi; exact hi
      · rw [if_neg (by omega), List.getElem?_append_right (by rw [hlen]; omega), hlen, show i + 3 - (1 + L.length) = (i - L.length) + 2 by omega, List.getElem?_cons_succ, List.getElem?_cons_succ]
        rw [List.getElem?_append_right (by simp; omega), List.length_set] at hi; exact hi
  have H4 := SpB.putBack n hln H3
  rw [hL, drvL_set hb hn] at H4
  exact H4.coreClose (ok.set hb)
end
end Go.Vc
namespace Go.Vc
open Go Wl Go.Proofs.YtmaknfkhibljfaaGreat
def EltP : Elt (Int × Sl) (Int × List UInt8) := ⟨fun h q a b => a.1 = b.1 ∧ Seq h q a.2 1 u8v b.2, fun a hp => ⟨a.1, a.2.pres hp⟩, fun a hq => ⟨a.1, a.2.mono hq⟩⟩
def piv (x : Int × Sl) : List Value := [.int .i64 x.1, .slice x.2.ptr x.2.len x.2.cap]
theorem one_piv : ∀ x, ∀ c ∈ piv x, c.oneCell' = true := by intro x c hc; simp [piv] at hc; rcases hc with rfl | rfl <;> rfl
def dptr (da : List (Option Addr)) (slot : Int) : Option Addr := if 0 ≤ slot ∧ slot < 64 then (da[slot.toNat]?).join else none
theorem at_cases {mc : List Value} {da : List (Option Addr)} {ds : Drvs} (ok : CoreOk mc da ds) (slot : Int) :
    (dAt ds slot = none ∧ dptr da slot = none) ∨ ∃ (n : Nat) (d : Drv) (b : Addr), slot = n ∧ n < 64 ∧ ds[n]? = some (some d) ∧ dAt ds slot = some d ∧ da[n]? = some (some b) ∧ dptr da slot = some b := by
  unfold dAt dptr
  by_cases h : 0 ≤ slot ∧ slot < 64
  · rw [if_pos h, if_pos h]
    have hn : slot.toNat < ds.length := by rw [ok.ls]; omega
    cases hd : ds[slot.toNat] with
    | none =>
      have h1 : ds[slot.toNat]? = some none := by rw [List.getElem?_eq_getElem hn, hd]
      exact .inl ⟨by rw [h1]; rfl, by rw [ok.noAddr (by omega) h1]; rfl⟩
    | some d =>
      have h1 : ds[slot.toNat]? = some (some d) := by rw [List.getElem?_eq_getElem hn, hd]
      obtain ⟨b, hb⟩ := ok.addr h1
      exact .inr ⟨slot.toNat, d, b, by omega, by omega, h1, by rw [h1]; rfl, hb, by rw [hb]; rfl⟩
  · rw [if_neg h, if_neg h]; exact .inl ⟨rfl, rfl⟩
theorem storC_get {mc : List Value} {pw : Addr} {offs : Int} {da : List (Option Addr)} (h8 : mc.length = 8) (n : Nat) : (storC mc pw offs da)[10 + n]? = (da[n]?).map .pointer := by
  unfold storC
  rw [List.getElem?_append_right (by omega), h8, show 10 + n - 8 = n + 1 + 1 by omega, List.getElem?_cons_succ, List.getElem?_cons_succ, List.getElem?_map]
theorem storC_pw {mc : List Value} {pw : Addr} {offs : Int} {da : List (Option Addr)} (h8 : mc.length = 8) : (storC mc pw offs da)[8]? = some (.pointer (some pw)) := by
  unfold storC; rw [List.getElem?_append_right (by omega), h8]; rfl
theorem storC_offs {mc : List Value} {pw : Addr} {offs : Int} {da : List (Option Addr)} (h8 : mc.length = 8) : (storC mc pw offs da)[9]? = some (.int .i64 offs) := by
  unfold storC; rw [List.getElem?_append_right (by omega), h8]; rfl
end Go.Vc
namespace Go.Proofs.YtmaknfkhibljfaaGreat
open Go Go.Vc Go.Proofs Wl
set_option maxRecDepth 100000
abbrev kitC : Go.Vc.Kit := ⟨T_store_Store, T_power_Power, T_drive_Drive, fun pw => drvC pw⟩
theorem compact_spec {e : TypeId} (s : Sl) (l : List Int) (h : Heap) (ho : Own h e s 1 intv l) (hsz : l.length < 2 ^ 40) : Meets Tryz.prog slices_Compact_int_int_id #[.slice s.ptr s.len s.cap] h fun v h' => v = .slice s.ptr (Lib.compact l).length s.cap ∧ Own h' e ⟨s.ptr, (Lib.compact l).length, s.cap⟩ 1 intv (Lib.compact l) ∧ Pres (fun b => ¬ s.on b) h h' :=
  compact_spec_of Tryz.slices_Compact_int Tryz.slices_Compact_int_empty ho hsz
section
variable {B : Blocks} {h0 h h' : Heap} {As : List HP} {a pw : Addr} {mc : List Value} {offs : Int} {da : List (Option Addr)} {w : Pow} {ds : Drvs}
theorem sdrive_spec (slot : Int) (ok : CoreOk mc da ds) (hb : Box h a T_store_Store (storC mc pw offs da)) : Meets Tryz.prog store_Store_Drive_id #[.pointer (some a), .int .i64 slot] h fun v h' => v = .pointer (dptr da slot) ∧ h' = h := by
  refine store_Store_Drive_run (some a) slot ?_
  unfold store_Store_Drive_m
  have no : ¬ (0 ≤ slot ∧ slot < 64) → Value.pointer none = .pointer (dptr da slot) ∧ h = h := fun e => by unfold dptr; rw [if_neg e]; exact ⟨rfl, rfl⟩
  refine join_in (br_b (fun e => by cases e) fun _ => br_dec (fun e => no (by omega)) fun e1 => br_dec (fun e => no (by omega)) fun e2 => ?_)
  have hn : slot.toNat < da.length := by rw [ok.la]; omega
  refine ⟨a, rfl, ⟨by omega, by omega⟩, da[slot.toNat], ?_, ?_, rfl⟩
  · rw [Nat.mul_one]
    refine hb.at2 10 slot.toNat ?_
    rw [storC_get ok.l8, List.getElem?_eq_getElem hn]; rfl
  · unfold dptr; rw [if_pos (by omega), List.getElem?_eq_getElem hn]; rfl
theorem SpB.coreBox (H : SpB B h0 h (CoreA kitC a pw mc offs da w ds :: As)) : CoreOk mc da ds ∧ Box h a T_store_Store (storC mc pw offs da) := by
  obtain ⟨ok, H1⟩ := Go.Vc.SpB.coreOpen H
  exact ⟨ok, H1.box 0 rfl⟩
theorem slive_spec (s : Sl) (l : List Int) (hs : Rd h s 1 intv l) (hl : l.length ≤ 2 ^ 30) (H : SpB B h0 h (CoreA kitC a pw mc offs da w ds :: As)) :
    Meets Tryz.prog lay_Live_id #[.func (.func store_Store_Drive_id) #[.pointer (some a)] #[], .slice s.ptr s.len s.cap] h fun v h' => ∃ r : Sl, v = .slice r.ptr r.len r.cap ∧ Sp h h' [OwnA T_int r 1 intv (liveOf ds l)] := by
  refine lay_Live_run (store_Store_Drive_id, #[.pointer (some a)], #[]) s ?_
  unfold lay_Live_m
  have hsl := hs.len
  obtain ⟨ok, hb⟩ := SpB.coreBox H
  refine loop_inv (fun t : Sl × Nat => (t.1, (t.2 : Int))) (fun t h' => t.2 ≤ l.length ∧ Sp h h' [OwnA T_int t.1 1 intv (liveOf ds (l.take t.2))]) (fun t => l.length - t.2) (⟨none, 0, 0⟩, 0) rfl ⟨by simp, by simpa [liveOf] using (Sp.refl h).nil T_int 1 intv⟩ ?_
  rintro ⟨o, i⟩ h1 ⟨hi, H1⟩
  dsimp only at *
  refine br_dec (fun e => ?_) (fun e => ?_)
  · have hi' : i < l.length := by omega
    have hsplit : liveOf ds (l.take (i + 1)) = liveOf ds (l.take i) ++ (if isLive ds l[i] then [l[i]] else []) := by
      unfold liveOf; rw [take_snoc _ _ hi', List.filter_append, List.filter_cons, List.filter_nil]
    have hll : (liveOf ds (l.take i)).length ≤ l.length := by
      have := List.length_filter_le (isLive ds) (l.take i)
      unfold liveOf; simp at this ⊢; omega
    have next : ∀ {h' : Heap} {o' : Sl}, Sp h h' [OwnA T_int o' 1 intv (liveOf ds (l.take (i + 1)))] → ∃ t' : Sl × Nat, ((⟨o'.ptr, o'.len, o'.cap⟩ : Sl), IntKind.wrap .i64 ((i : Int) + 1)) = (t'.1, (t'.2 : Int)) ∧ (t'.2 ≤ l.length ∧ Sp h h' [OwnA T_int t'.1 1 intv (liveOf ds (l.take t'.2))]) ∧ l.length - t'.2 < l.length - i := fun {h' o'} H' =>
      ⟨(o', i + 1), by dsimp only; rw [Go.Vc.wrap_small _ (by omega) (by omega)]; rfl, ⟨by dsimp only; omega, H'⟩, by dsimp only; omega⟩
    refine (Seq.up hs H1.pres).get1 i rfl hi' l[i] rfl (dyn_in (by rfl) ?_)
    refine (sdrive_spec l[i] ok (hb.pres H1.pres hb.lt)).mono ?_
    rintro _ h2 ⟨rfl, rfl⟩
    refine ⟨_, rfl, ?_⟩
    rcases at_cases ok l[i] with ⟨c1, c2⟩ | ⟨n, d, b, c0, c1, c2, c3, c4, c5⟩
    · rw [c2]
      have hlv : isLive ds l[i] = false := by unfold isLive; rw [c1]
      rw [hlv] at hsplit
      refine br_not (fun e => by cases e) fun _ => next (by rw [hsplit]; simpa using H1)
    · rw [c5]
      have hlv : isLive ds l[i] = !d.lost := by unfold isLive; rw [c3]
      refine br_not (fun _ => ?_) fun e => by cases e
      obtain ⟨b', hb', H2⟩ := Go.Vc.SpB.coreDrive (SpB.up H H1.pres) c2
      rw [c4] at hb'
      injection hb' with hb'
      injection hb' with hb'
      subst hb'
      obtain ⟨sd, bd, hdb, _, _⟩ := DrvA.box H2
      refine (lost_spec sd bd hdb).mono ?_
      rintro _ h3 ⟨rfl, rfl⟩
      refine ⟨_, rfl, br_not (fun e => ?_) (fun e => ?_)⟩
      · rw [hlv, e] at hsplit
        refine H1.push C_ok 0 rfl eInt rfl (by decide) (fun _ => rfl) one_int l[i] rfl (by decide) (by omega) fun o' h4 H4 => next ?_
        rw [hsplit]; exact H4
      · rw [hlv, e] at hsplit
        exact next (by rw [hsplit]; simpa using H1)
  · rw [List.take_of_length_le (by omega)] at H1
    exact ⟨o, rfl, H1⟩
theorem lsync_spec (s : Sl) (l : List Int) (hS : St B h0 As fun h => Rd h s 1 intv l) (hl : l.length ≤ 2 ^ 30) (hin : ∀ x ∈ l, 0 ≤ x ∧ x < 64) (H : SpB B h0 h (CoreA kitC a pw mc offs da w ds :: As)) :
    Meets Tryz.prog lay_Sync_id #[.func (.func store_Store_Drive_id) #[.pointer (some a)] #[], .slice s.ptr s.len s.cap] h fun v h' => v = .int .i64 (syncs (slotsUp l) w ds).1 ∧ SpB B h0 h' (CoreA kitC a pw mc offs da (syncs (slotsUp l) w ds).2.1 (syncs (slotsUp l) w ds).2.2 :: As) := by
  refine lay_Sync_run (store_Store_Drive_id, #[.pointer (some a)], #[]) s ?_
  unfold lay_Sync_m
  refine (clone_int_spec s l h (hS.at [_] H) (by omega)).mono ?_
  rintro _ h1 ⟨r, rfl, R1⟩
  have H1 := H.comp1 R1
  refine ⟨r, rfl, (sort_spec r l h1 (H1.own 0 rfl) (by omega)).mono ?_⟩
  rintro _ h2 ⟨rfl, O2, P2⟩
  have H2 := H1.ownStep 0 rfl P2 O2
  refine ⟨(), rfl, (compact_spec r (sortI l) h2 O2 (by rw [sortI_len]; omega)).mono ?_⟩
  rintro _ h3 ⟨rfl, O3, P3⟩
  have H3 := H2.step (D := OwnA T_int ⟨r.ptr, (Lib.compact (sortI l)).length, r.cap⟩ 1 intv (Lib.compact (sortI l))) 0 rfl fun q hq hlt => ⟨P3.mono fun b _ hb hon => hb (hq.2 b hon), O3, fun b hb => ⟨Nat.lt_of_lt_of_le (hlt b (hq.2 b hb)) P3.1, .inl (hq.2 b hb)⟩⟩
  rw [slotsUp_of l hin] at H3 ⊢
  obtain ⟨u, hu⟩ : ∃ u, u = slotsUp l := ⟨_, rfl⟩
  rw [← hu] at H3 ⊢
  have H3 : SpB B h0 h3 (OwnA T_int ⟨r.ptr, u.length, r.cap⟩ 1 intv u :: CoreA kitC a pw mc offs da w ds :: As) := H3
  have hul : u.length ≤ 64 := by
    have := List.length_filter_le (fun i => decide (i ∈ l)) ((List.range 64).map fun i : Nat => (i : Int))
    rw [hu]; unfold slotsUp; simpa using this
  refine ⟨⟨r.ptr, u.length, r.cap⟩, rfl, ?_⟩
  refine loop_inv (fun t : Nat × Pow × Drvs => (t.1 : Int)) (fun t h' => t.1 ≤ u.length ∧ syncs u w ds = syncs (u.drop t.1) t.2.1 t.2.2 ∧ SpB B h0 h' (OwnA T_int ⟨r.ptr, u.length, r.cap⟩ 1 intv u :: CoreA kitC a pw mc offs da t.2.1 t.2.2 :: As)) (fun t => u.length - t.1) (0, w, ds) rfl ⟨by simp, rfl, H3⟩ ?_
  rintro ⟨i, w1, ds1⟩ h4 ⟨hi, hsy, H4⟩
  dsimp only at *
  refine br_dec (fun e => ?_) (fun e => ?_)
  · have hi' : i < u.length := by omega
    obtain ⟨ok, hb⟩ := SpB.coreBox H4.rest
    rw [List.drop_eq_getElem_cons hi', syncs_cons] at hsy
    refine (H4.seq 0 rfl fun _ => rfl).get1 i rfl hi' u[i] rfl (dyn_in (by rfl) ?_)
    refine (sdrive_spec u[i] ok hb).mono ?_
    rintro _ h5 ⟨rfl, rfl⟩
    refine ⟨_, rfl, ?_⟩
    rcases at_cases ok u[i] with ⟨c1, c2⟩ | ⟨n, d, b, c0, c1, c2, c3, c4, c5⟩
    · rw [c2]
      refine (syncNil_spec h5).mono ?_
      rintro _ h6 ⟨rfl, rfl⟩
      have es : syncAt w1 ds1 u[i] = (5, w1, ds1) := by unfold syncAt; rw [c1]
      rw [es] at hsy
      refine ⟨5, rfl, br_ne (fun _ => ?_) fun e => absurd e (by decide)⟩
      have : syncs u w ds = (5, w1, ds1) := hsy
      rw [this]
      exact ⟨rfl, H4.rest⟩
    · rw [c5]
      obtain ⟨b', hb', H5⟩ := Go.Vc.SpB.coreDrive (H4.selT 2 [1, 0]) c2
      rw [c4] at hb'
      injection hb' with hb'
      injection hb' with hb'
      subst hb'
      refine (sync_spec H5).mono ?_
      rintro _ h6 ⟨rfl, H6⟩
      have H7 := Go.Vc.SpB.coreBack (k := kitC) (n := n) c4 H6
      have es : syncAt w1 ds1 u[i] = ((d.sync w1).1, (d.sync w1).2.1, ds1.set n (some (d.sync w1).2.2)) := by
        unfold syncAt; rw [c3]; simp only [dSet, c0, Int.toNat_natCast]
      rw [es] at hsy
      refine ⟨_, rfl, br_ne (fun e2 => ?_) fun e2 => ?_⟩
      · have : syncs u w ds = ((d.sync w1).1, (d.sync w1).2.1, ds1.set n (some (d.sync w1).2.2)) := by rw [hsy]; exact if_neg e2
        rw [this]
        exact ⟨rfl, H7.drop2⟩
      · refine ⟨(i + 1, (d.sync w1).2.1, ds1.set n (some (d.sync w1).2.2)), by dsimp only; rw [Go.Vc.wrap_small _ (by omega) (by omega)]; rfl, ⟨by dsimp only; omega, ?_, H7.selT 2 [1, 0]⟩, by dsimp only; omega⟩
        rw [hsy]; exact if_pos e2
  · rw [List.drop_of_length_le (by omega)] at hsy
    rw [hsy]
    exact ⟨rfl, H4.rest⟩
end
end Go.Proofs.YtmaknfkhibljfaaGreat
namespace Go.Vc
open Go Wl
theorem HP.all_get {h : Heap} : ∀ {L : List HP} {q : Blocks} {i : Nat} {A : HP}, (HP.all L).p h q → L[i]? = some A → A.p h q
  | A :: L, q, 0, A', ⟨q1, q2, _, b, _, d, _⟩, hi => by simp at hi; subst hi; exact A.mono d b
  | A :: L, q, i + 1, A', ⟨q1, q2, _, _, c, _, e⟩, hi => A'.mono (HP.all_get e (by simpa using hi)) c
  | [], _, i, _, _, hi => by simp at hi
section
variable {α β : Type} {B : Blocks} {h0 h : Heap} {As : List HP} {e e2 k : Nat} {s : Sl} {f : α → List Value} {ll : List (List α)}
theorem SpB.wFix (H : SpB B h0 h (RowsW e s e2 k f ll :: As)) (hw : ∀ x, (f x).length = k) : ∃ rs, SpB B h0 h (FixA (EltS k f) 1 slv s rs ll :: As) := by
  obtain ⟨rs, H⟩ := H.open0
  obtain ⟨H, hl⟩ := H.and0
  refine ⟨rs, H.weak 0 rfl fun q hq => ⟨?_, hl, fun i r l h1 h2 => ?_⟩⟩
  · have := HP.all_get (i := 0) hq rfl
    exact this.1.seq (fun _ => rfl) this.2
  · have hi : i < ll.length := (List.getElem?_eq_some_iff.1 h2).1
    have hg := ownRows_get (e := e2) (k := k) (f := f) hl i hi
    have := HP.all_get (i := i + 1) hq (by simpa using hg)
    have e1 : rs[i]'(by omega) = r := by rw [List.getElem?_eq_getElem (by omega)] at h1; simpa using h1
    have e2 : ll[i] = l := by rw [List.getElem?_eq_getElem hi] at h2; simpa using h2
    rw [e1, e2] at this
    exact this.1.seq hw this.2
end
end Go.Vc
namespace Wl
def pagesOf (m : Mani) (slots : List Int) : List (Int × List UInt8) := slots.flatMap fun n => (splitM m).map fun c => (n, c)
theorem pagesOf_mem {m : Mani} {slots : List Int} {x : Int × List UInt8} (h : x ∈ pagesOf m slots) : x.1 ∈ slots ∧ x.2.length = 64 := by
  unfold pagesOf at h
  obtain ⟨n, hn, hx⟩ := List.mem_flatMap.1 h
  obtain ⟨c, hc, rfl⟩ := List.mem_map.1 hx
  exact ⟨hn, split_cell hc⟩
end Wl
namespace Go.Proofs.YtmaknfkhibljfaaGreat
open Go Go.Vc Go.Proofs Wl
set_option maxRecDepth 100000
theorem split_len (m : Mani) (hz : ManSz m) : (splitM m).length ≤ 3000 := by
  have := pack_len m hz
  unfold splitM manyP; simp; omega
abbrev ePiece : ElemOk C.toCfg T_sl_lay_Piece T_lay_Piece 2 [.int .i64 0, .slice none 0 0] 32 := ⟨_, _, rfl, rfl, rfl, rfl, rfl, rfl⟩
section
variable {B : Blocks} {h0 h h' : Heap} {As : List HP} {a pw : Addr} {mc : List Value} {offs : Int} {da : List (Option Addr)} {w : Pow} {ds : Drvs}
theorem lall_spec (s : Sl) (ys : List (Int × Sl)) (P : List (Int × List UInt8)) (hS : St B h0 As fun h => RdF EltP 2 piv h s ys P) (hl : P.length ≤ 2 ^ 30) (hin : ∀ x ∈ P, (0 ≤ x.1 ∧ x.1 < 64) ∧ x.2.length ≤ 2 ^ 20) (H : SpB B h0 h (CoreA kitC a pw mc offs da w ds :: As)) :
    Meets Tryz.prog lay_All_id #[.func (.func store_Store_Drive_id) #[.pointer (some a)] #[], .slice s.ptr s.len s.cap] h fun v h' => v = .int .i64 (layAll P w ds).1 ∧ SpB B h0 h' (CoreA kitC a pw mc offs da (layAll P w ds).2.1 (layAll P w ds).2.2 :: As) := by
  refine lay_All_run (store_Store_Drive_id, #[.pointer (some a)], #[]) s ?_
  unfold lay_All_m
  have hsl := (hS.at [_] H).1.len
  have hyl := (hS.at [_] H).2.1
  have H0 := (H.nil T_int 1 intv).front1
  refine loop_inv (fun t : Sl × Nat × Pow × Drvs => (t.1, (t.2.1 : Int))) (fun t h' => t.2.1 ≤ P.length ∧ appends P w ds = appends (P.drop t.2.1) t.2.2.1 t.2.2.2 ∧ SpB B h0 h' (OwnA T_int t.1 1 intv ((P.take t.2.1).map Prod.fst) :: CoreA kitC a pw mc offs da t.2.2.1 t.2.2.2 :: As)) (fun t => P.length - t.2.1) (⟨none, 0, 0⟩, 0, w, ds) rfl ⟨by simp, rfl, by simpa using H0⟩ ?_
  rintro ⟨o, i, w1, ds1⟩ h1 ⟨hi, hap, H1⟩
  dsimp only at *
  refine br_dec (fun e => ?_) (fun e => ?_)
  · have hi' : i < P.length := by omega
    rw [List.drop_eq_getElem_cons hi', appends_cons] at hap
    have F1 := hS.at [_, _] H1
    have hPi := hin _ (List.getElem_mem hi')
    refine F1.1.getk (g := piv) i rfl (by omega) (ys[i]'(by omega)) rfl ?_
    refine H1.alloc C_ok rfl fun a4 h2 H2 => ?_
    have H2 := H2.front1
    refine H2.storeAll C_ok 0 rfl rfl (piv (ys[i]'(by omega))) rfl rfl rfl rfl fun h3 H3 => ?_
    obtain ⟨y1, y2⟩ := Fix.row (hS.at [_, _, _] H3) hi'
    have H3 : SpB B h0 h3 (BoxA a4 T_lay_Piece (piv (ys[i]'(by omega))) :: OwnA T_int o 1 intv ((P.take i).map Prod.fst) :: CoreA kitC a pw mc offs da w1 ds1 :: As) := H3
    have H3 := H3.selT 3 [2, 0, 1]
    obtain ⟨ok, hb⟩ := SpB.coreBox H3
    obtain ⟨res, hres⟩ : ∃ res, res = appendAt w1 ds1 P[i].1 P[i].2 := ⟨_, rfl⟩
    rw [← hres] at hap
    refine join_cut (fun _ h' => res.1 = 0 ∧ SpB B h0 h' (CoreA kitC a pw mc offs da res.2.1 res.2.2 :: BoxA a4 T_lay_Piece (piv (ys[i]'(by omega))) :: OwnA T_int o 1 intv ((P.take i).map Prod.fst) :: As)) ?_ ?_
    · refine join_cut (fun e h' => e = res.1 ∧ SpB B h0 h' (CoreA kitC a pw mc offs da res.2.1 res.2.2 :: BoxA a4 T_lay_Piece (piv (ys[i]'(by omega))) :: OwnA T_int o 1 intv ((P.take i).map Prod.fst) :: As)) ?_ ?_
      · refine ⟨P[i].1, by rw [← y1]; exact (H3.box 1 rfl).cell0 rfl, (ys[i]'(by omega)).2, (H3.box 1 rfl).cell rfl, dyn_in (by rfl) ?_⟩
        refine (sdrive_spec P[i].1 ok hb).mono ?_
        rintro _ h4 ⟨rfl, rfl⟩
        refine ⟨_, rfl, ⟨(H3.box 1 rfl).cell rfl, trivial⟩, ?_⟩
        rcases at_cases ok P[i].1 with ⟨c1, c2⟩ | ⟨n, d, b, c0, c1, c2, c3, c4, c5⟩
        · rw [c2]
          refine (appendNil_spec (ys[i]'(by omega)).2 P[i].2 h4 y2).mono ?_
          rintro _ h5 ⟨rfl, rfl⟩
          have es : res = (if P[i].2.length ≠ 64 then 1 else 5, w1, ds1) := by rw [hres]; unfold appendAt; rw [c1]
          refine ⟨_, rfl, trivial, by rw [es], ?_⟩
          rw [es]; exact H3
        · rw [c5]
          obtain ⟨b', hb', H5⟩ := Go.Vc.SpB.coreDrive H3 c2
          rw [c4] at hb'
          injection hb' with hb'
          injection hb' with hb'
          subst hb'
          refine (append_spec (ys[i]'(by omega)).2 P[i].2 H5 y2 hPi.2).mono ?_
          rintro _ h6 ⟨rfl, H6⟩
          have H7 := Go.Vc.SpB.coreBack (k := kitC) (n := n) c4 H6
          have es : res = ((d.append w1 P[i].2).1, (d.append w1 P[i].2).2.1, ds1.set n (some (d.append w1 P[i].2).2.2)) := by
            rw [hres]; unfold appendAt; rw [c3]; simp only [dSet, c0, Int.toNat_natCast]
          refine ⟨_, rfl, trivial, by rw [es], ?_⟩
          rw [es]; exact H7
      · rintro e4 h4 ⟨rfl, H4⟩
        refine br_ne (fun e2 => ?_) fun e2 => ⟨e2, H4⟩
        rw [if_neg e2] at hap
        have : layAll P w ds = res := by unfold layAll; rw [hap]; exact if_neg e2
        rw [this]
        exact ⟨rfl, H4.drop2.drop2⟩
    · rintro _ h4 ⟨e2, H4⟩
      rw [if_pos e2] at hap
      refine ⟨P[i].1, by rw [← y1]; exact (H4.box 1 rfl).cell0 rfl, ?_⟩
      refine H4.push C_ok 2 rfl eInt rfl (by decide) (fun _ => rfl) one_int P[i].1 rfl (by decide) (by simp; omega) fun o' h5 H5 => ?_
      refine ⟨(o', i + 1, res.2.1, res.2.2), by dsimp only; rw [Go.Vc.wrap_small _ (by omega) (by omega)]; rfl, ⟨by dsimp only; omega, hap, ?_⟩, by dsimp only; omega⟩
      dsimp only
      rw [take_snoc _ _ hi', List.map_append]
      exact H5.selT 3 [2, 0]
  · have hie : i = P.length := by omega
    subst hie
    rw [List.drop_length] at hap
    rw [List.take_length] at H1
    have H2 := (H1.freeze 0 rfl fun _ => rfl).selT 2 [1, 0]
    have hla : layAll P w ds = syncs (slotsUp (P.map Prod.fst)) w1 ds1 := by unfold layAll; rw [hap]; rfl
    refine (lsync_spec o (P.map Prod.fst) (St.thing 0 rfl fun h' hh => hh) (by simp; omega) (fun x hx => ?_) H2).mono ?_
    · obtain ⟨y, hy, rfl⟩ := List.mem_map.1 hx; exact (hin y hy).1
    · rintro _ h2 ⟨rfl, H3⟩
      refine ⟨_, rfl, by rw [hla], ?_⟩
      rw [hla]; exact H3.drop2
theorem lpages_spec (x : ManV) (m : Mani) (s : Sl) (slots : List Int) (h : Heap) (hx : RdM h x m) (hz : ManSz m) (hs : Rd h s 1 intv slots) (hsl : slots.length ≤ 2 ^ 10) :
    Meets Tryz.prog lay_Pages_id #[manv x, .slice s.ptr s.len s.cap] h fun v h' => ∃ (r : Sl) (ys : List (Int × Sl)), v = .slice r.ptr r.len r.cap ∧ Sp h h' [FixA EltP 2 piv r ys (pagesOf m slots)] := by
  refine lay_Pages_run x s ?_
  unfold lay_Pages_m
  refine (Sp.refl h).boxed fun a1 h1 H1 => ?_
  refine ⟨x, (H1.box 0 rfl).cells0 _ rfl, (split_spec x m h1 (hx.up H1.pres) hz).mono ?_⟩
  rintro _ h2 ⟨r, rfl, R2⟩
  have H2 := H1.comp1 R2
  refine ⟨r, rfl, ?_⟩
  obtain ⟨rs, H2⟩ := H2.wFix fun _ => rfl
  have hpl := split_len m hz
  obtain ⟨pg, hpg⟩ : ∃ pg, pg = splitM m := ⟨_, rfl⟩
  rw [← hpg] at H2 hpl
  have F2 := H2.fixRd 0 rfl
  have hrl := F2.1.len
  have hrs := F2.2.1
  have hsn := hs.len
  obtain ⟨T, hT⟩ : ∃ T : Int → List ((Int × Sl) × (Int × List UInt8)), T = fun n => (rs.zip pg).map fun z => ((n, z.1), (n, z.2)) := ⟨_, rfl⟩
  have hTl : ∀ n, (T n).length = pg.length := fun n => by rw [hT]; simp; omega
  have hTs : ∀ n, (T n).map Prod.snd = pg.map fun c => (n, c) := fun n => by
    have hz := List.map_snd_zip (l₁ := rs) (l₂ := pg) (by omega)
    conv => rhs; rw [← hz]
    rw [hT]; simp [List.map_map, Function.comp_def]
  have hTg : ∀ n j (hj : j < pg.length), (T n)[j]'(by rw [hTl]; exact hj) = ((n, rs[j]'(by omega)), (n, pg[j])) := fun n j hj => by subst hT; simp
  have H3 : Sp h h2 [OwnA T_lay_Piece ⟨none, 0, 0⟩ 2 piv (((slots.take 0).flatMap T).map Prod.fst), FixA (EltS 1 u8v) 1 slv r rs pg] := (H2.nil T_lay_Piece 2 piv).sel [2, 0]
  have htot : ∀ i, i ≤ slots.length → ((slots.take i).flatMap T).length ≤ i * 3000 := fun i => by
    induction i with
    | zero => simp
    | succ i ih =>
      intro hi
      rw [take_snoc _ _ (show i < slots.length by omega), List.flatMap_append, List.length_append]
      have h1 := ih (by omega)
      have h2 : ([slots[i]].flatMap T).length = pg.length := by rw [List.flatMap_cons, List.flatMap_nil, List.append_nil, hTl]
      omega
  refine loop_inv (fun t : Sl × Nat => (t.1, (t.2 : Int))) (fun t h' => t.2 ≤ slots.length ∧ Sp h h' [OwnA T_lay_Piece t.1 2 piv (((slots.take t.2).flatMap T).map Prod.fst), FixA (EltS 1 u8v) 1 slv r rs pg]) (fun t => slots.length - t.2) (⟨none, 0, 0⟩, 0) rfl ⟨by simp, H3⟩ ?_
  rintro ⟨o, i⟩ h3 ⟨hi, H3⟩
  dsimp only at *
  refine br_dec (fun e => ?_) (fun e => ?_)
  · have hi' : i < slots.length := by omega
    have ht := htot i hi
    have hb : i * 3000 ≤ 2 ^ 10 * 3000 := Nat.mul_le_mul_right _ (by omega)
    refine (Seq.up hs H3.pres).get1 i rfl hi' slots[i] rfl ?_
    refine loop_inv (fun t : Sl × Nat => (t.1, (t.2 : Int))) (fun t h' => t.2 ≤ pg.length ∧ Sp h h' [OwnA T_lay_Piece t.1 2 piv (((slots.take i).flatMap T).map Prod.fst ++ ((T slots[i]).take t.2).map Prod.fst), FixA (EltS 1 u8v) 1 slv r rs pg]) (fun t => pg.length - t.2) (o, 0) rfl ⟨by simp, by simpa using H3⟩ ?_
    rintro ⟨u, j⟩ h4 ⟨hj, H4⟩
    dsimp only at *
    refine br_dec (fun e2 => ?_) (fun e2 => ?_)
    · have hj' : j < pg.length := by omega
      refine (H4.fixRd 1 rfl).1.getH j rfl (by omega) ?_
      refine H4.push C_ok 0 rfl ePiece rfl (by decide) (fun _ => rfl) one_piv (slots[i], rs[j]'(by omega)) rfl (by decide) (by simp only [List.length_append, List.length_map, List.length_take, hTl]; omega) fun u' h5 H5 => ?_
      refine ⟨(u', j + 1), by dsimp only; rw [Go.Vc.wrap_small _ (by omega) (by omega)]; rfl, ⟨by dsimp only; omega, ?_⟩, by dsimp only; omega⟩
      dsimp only
      rw [take_snoc (T slots[i]) j (by rw [hTl]; exact hj'), List.map_append, hTg _ _ hj', ← List.append_assoc]
      exact H5
    · have hje : j = pg.length := by omega
      subst hje
      rw [List.take_of_length_le (l := T slots[i]) (by rw [hTl]; exact Nat.le_refl _)] at H4
      refine ⟨(u, i + 1), by dsimp only; rw [Go.Vc.wrap_small _ (by omega) (by omega)]; rfl, ⟨by dsimp only; omega, ?_⟩, by dsimp only; omega⟩
      dsimp only
      rw [take_snoc _ _ hi', List.flatMap_append, List.map_append, List.flatMap_cons, List.flatMap_nil, List.append_nil]
      exact H4
  · have hie : i = slots.length := by omega
    subst hie
    rw [List.take_length] at H3
    refine ⟨o, (slots.flatMap T).map Prod.fst, rfl, ?_⟩
    have H4 := (H3.freeze 0 rfl fun _ => rfl).join0
    refine H4.weak 0 rfl fun q ⟨q1, q2, _, b, c, z1, z2⟩ => ?_
    have hsnd : (slots.flatMap T).map Prod.snd = pagesOf m slots := by
      unfold pagesOf
      rw [List.map_flatMap, ← hpg]
      congr 1; funext n; exact hTs n
    rw [← hsnd]
    refine ⟨z2.mono c, by simp, fun j r' l' g1 g2 => ?_⟩
    rw [List.getElem?_map] at g1 g2
    cases g3 : (slots.flatMap T)[j]? with
    | none => rw [g3] at g1; cases g1
    | some t =>
      rw [g3] at g1 g2; simp at g1 g2; subst g1; subst g2
      obtain ⟨n, _, hn⟩ := List.mem_flatMap.1 (List.mem_of_getElem? g3)
      rw [hT] at hn
      obtain ⟨z, hz2, rfl⟩ := List.mem_map.1 hn
      obtain ⟨k, hk, rfl⟩ := List.mem_iff_getElem.1 hz2
      rw [List.getElem_zip]
      exact ⟨rfl, (z1.2.2 k _ _ (List.getElem?_eq_getElem _) (List.getElem?_eq_getElem _)).mono b⟩
end
end Go.Proofs.YtmaknfkhibljfaaGreat
namespace Wl
def wholeB (m : Mani) (l : List (List UInt8)) : Bool := mayM m && (splitM m).all fun p => decide (p ∈ l)
end Wl
namespace Go.Proofs.YtmaknfkhibljfaaGreat
open Go Go.Vc Go.Proofs Wl
set_option maxRecDepth 100000
theorem anyB_spec (a : Addr) (e : Sl) (p : List UInt8) (l : Sl) (ll : Cells) (h : Heap) (hb : Box h a T_sl_uint8 [.slice e.ptr e.len e.cap]) (he : Rd h e 1 u8v p) (hl : Rd2 h l 1 u8v ll) (hs : ll.length ≤ 2 ^ 30) :
    Meets Tryz.prog slices_ContainsFunc_ss_byte_byte_id #[.slice l.ptr l.len l.cap, .func (.func scan_Whole_1_id) #[] #[.pointer (some a)]] h fun v h' => v = .bool (decide (p ∈ ll)) ∧ h' = h := by
  refine slices_ContainsFunc_ss_byte_byte_run l (scan_Whole_1_id, #[], #[.pointer (some a)]) ?_
  unfold slices_ContainsFunc_ss_byte_byte_m
  refine (slices_IndexFunc_ss_byte_byte_run l (scan_Whole_1_id, #[], #[.pointer (some a)]) (R := fun v h' => (∃ i : Int, v = .int .i64 i ∧ (decide (i ≥ 0) = decide (p ∈ ll))) ∧ h' = h) ?_).mono ?_
  · unfold slices_IndexFunc_ss_byte_byte_m
    have hll := hl.len
    refine loop_inv (fun i : Nat => (i : Int)) (fun i h' => i ≤ ll.length ∧ p ∉ ll.take i ∧ h' = h) (fun i => ll.length - i) 0 rfl ⟨by omega, by simp, rfl⟩ ?_
    rintro i h1 ⟨hi, hno, rfl⟩
    refine br_dec (fun e1 => ?_) (fun e1 => ?_)
    · have hi' : i < ll.length := by
        have e' : (i : Int) < (l.len : Int) := e1
        omega
      refine hl.get i rfl hi' fun r hr => dyn_in (by rfl) ?_
      refine (scan_Whole_1_run r a (R := fun v h' => v = .bool (decide (ll[i] = p)) ∧ h' = h1) ?_).mono ?_
      · unfold scan_Whole_1_m
        refine ⟨e, hb.cell0 rfl, (bytesEq_spec r e ll[i] p h1 hr he).mono ?_⟩
        rintro _ _ ⟨rfl, rfl⟩
        exact ⟨_, rfl, rfl, rfl⟩
      · rintro _ _ ⟨rfl, rfl⟩
        refine ⟨_, rfl, br_dec (fun e2 => ⟨⟨i, rfl, ?_⟩, rfl⟩) (fun e2 => ?_)⟩
        · rw [decide_eq_true (show (i : Int) ≥ 0 by omega), decide_eq_true (by rw [← e2]; exact List.getElem_mem hi')]
        · refine ⟨i + 1, by rw [Go.Vc.wrap_small _ (by omega) (by omega)]; rfl, ⟨by omega, fun hm => ?_, rfl⟩, by omega⟩
          rw [take_snoc _ _ hi'] at hm
          rcases List.mem_append.1 hm with hm | hm
          · exact hno hm
          · exact e2 (List.mem_singleton.1 hm).symm
    · have e' : ¬ (i : Int) < (l.len : Int) := e1
      rw [List.take_of_length_le (by omega)] at hno
      exact ⟨⟨-1, rfl, by rw [decide_eq_false hno]; rfl⟩, rfl⟩
  · rintro _ h1 ⟨⟨i, rfl, hi⟩, rfl⟩
    exact ⟨i, rfl, by rw [hi], rfl⟩
theorem whole_spec (a pw : Addr) (d : Drv) (s b : Sl) (x : ManV) (m : Mani) (h : Heap) (hb : Box h a T_drive_Drive (drvC pw d s b)) (hl : Rd2 h s 1 u8v d.l) (ok : DrvOk d) (hx : RdM h x m) (hz : ManSz m) :
    Meets Tryz.prog scan_Whole_id #[.pointer (some a), manv x] h fun v h' => v = .bool (wholeB m d.l) ∧ Sp h h' [] := by
  refine scan_Whole_run (some a) x ?_
  unfold scan_Whole_m
  have hlen := ok.len; have hroom := ok.room
  refine (Sp.refl h).boxed fun a1 h1 H1 => ?_
  have H1 : Sp h h1 [BoxA a1 T_api_Manifest (manL x)] := H1
  refine ⟨x, (H1.box 0 rfl).cells0 _ rfl, (may_spec x m h1 (hx.up H1.pres) hz).mono ?_⟩
  rintro _ h2 ⟨rfl, R2⟩
  have H2 : Sp h h2 [BoxA a1 T_api_Manifest (manL x)] := H1.up R2.pres
  refine ⟨_, rfl, br_not (fun g => ⟨by unfold wholeB; rw [g]; rfl, .zip H2.pres⟩) fun g => ?_⟩
  refine (all_spec s b (hb.pres H2.pres hb.lt) (hl.up H2.pres) ok).mono ?_
  rintro _ h3 ⟨r4, rfl, R3⟩
  have H3 : Sp h h3 [BoxA a1 T_api_Manifest (manL x), RowsD r4 d.l] := H2.comp R3
  refine ⟨r4, rfl, x, (H3.box 0 rfl).cells0 _ rfl, (split_spec x m h3 (hx.up H3.pres) hz).mono ?_⟩
  rintro _ h4 ⟨r6, rfl, R4⟩
  have H4 : Sp h h4 [BoxA a1 T_api_Manifest (manL x), RowsD r4 d.l, RowsD r6 (splitM m)] := H3.comp R4
  have hsl := split_len m hz
  obtain ⟨pg, hpg⟩ : ∃ pg, pg = splitM m := ⟨_, rfl⟩
  rw [← hpg] at H4 hsl
  have hr6 := (SpB.wLen (H4.selT 3 [2])).1
  refine ⟨r6, rfl, ?_⟩
  obtain ⟨rs, H4⟩ := (H4.sel [2, 1]).wFix fun _ => rfl
  refine loop_inv (fun i : Nat => (i : Int)) (fun i h' => i ≤ pg.length ∧ ((pg.take i).all fun p => decide (p ∈ d.l)) = true ∧ Sp h h' [FixA (EltS 1 u8v) 1 slv r6 rs pg, RowsD r4 d.l]) (fun i => pg.length - i) 0 rfl ⟨by omega, by simp, H4⟩ ?_
  rintro i h5 ⟨hi, hall, H5⟩
  have hrs := (H5.fixRd 0 rfl).2.1
  refine br_dec (fun e => ?_) (fun e => ?_)
  · have hi' : i < pg.length := by
      have e' : (i : Int) < (r6.len : Int) := e
      omega
    refine (H5.fixRd 0 rfl).1.getH i rfl (by omega) ?_
    obtain ⟨r, hr⟩ : ∃ r, r = rs[i]'(by omega) := ⟨_, rfl⟩
    rw [← hr]
    refine H5.alloc C_ok rfl fun a10 h6 H6 => ?_
    refine H6.storeAll C_ok 2 rfl rfl [.slice r.ptr r.len r.cap] rfl rfl rfl rfl fun h7 H7 => ?_
    have H7 : Sp h h7 [FixA (EltS 1 u8v) 1 slv r6 rs pg, RowsD r4 d.l, BoxA a10 T_sl_uint8 [.slice r.ptr r.len r.cap]] := H7
    have hrow : Rd h7 r 1 u8v pg[i] := by rw [hr]; exact Fix.row (H7.fixRd 0 rfl) hi'
    have hr4 := SpB.wRd (H7.selT 2 [1]) fun _ => rfl
    refine (anyB_spec a10 r pg[i] r4 d.l h7 (H7.box 2 rfl) hrow hr4 (by omega)).mono ?_
    rintro _ h8 ⟨rfl, rfl⟩
    refine ⟨_, rfl, br_not (fun g2 => ⟨?_, .zip H7.pres⟩) fun g2 => ?_⟩
    · have : wholeB m d.l = false := by
        unfold wholeB
        rw [g, Bool.true_and, ← hpg]
        exact List.all_eq_false.2 ⟨pg[i], List.getElem_mem hi', by rw [g2]; simp⟩
      rw [this]
    · refine ⟨i + 1, by rw [Go.Vc.wrap_small _ (by omega) (by omega)]; rfl, ⟨by omega, ?_, H7.sel [0, 1]⟩, by omega⟩
      rw [take_snoc _ _ hi', List.all_append, hall, List.all_cons, List.all_nil, g2]; rfl
  · have : i = pg.length := by
      have e' : ¬ (i : Int) < (r6.len : Int) := e
      omega
    subst this
    rw [List.take_length] at hall
    exact ⟨by unfold wholeB; rw [g, ← hpg, hall]; rfl, .zip H5.pres⟩
end Go.Proofs.YtmaknfkhibljfaaGreat
