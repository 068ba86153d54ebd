/- Part of the proofs that wellspringlaw30's laws answer true whatever the input reads, and leave it as it was; no condition. -/
import Derived.Test.YtmaknfkhibljfaaGreatKB
import Derived.Test.YtmaknfkhibljfaaGreatPlA
import Derived.Test.YtmaknfkhibljfaaGreatKA
import Derived.Test.YtmaknfkhibljfaaGreatKC
set_option linter.unusedVariables false
set_option linter.unusedSimpArgs false
namespace Go.Proofs.YtmaknfkhibljfaaGreat
open Go Go.Vc Go.Proofs Wl
set_option maxRecDepth 100000
section
variable {B : Blocks} {h0 h h' : Heap} {As : List HP} {a : Addr} {w : Pow}
abbrev RPowA (a : Addr) (w : Pow) : HP := PowA T_wellspringref21_Power a w
theorem rstep_spec (H : SpB B h0 h (RPowA a w :: As)) : Meets Tryz.prog wellspringref21_Power_Step_id #[.pointer (some a)] h fun v h' => v = .bool w.step.1 ∧ SpB B h0 h' (RPowA a w.step.2 :: As) := by
  obtain ⟨l, hl, H1⟩ := H.powOpen
  refine wellspringref21_Power_Step_run (some a) ?_
  unfold wellspringref21_Power_Step_m
  refine ⟨a, rfl, w.off, (H1.box 0 rfl).cell0 rfl, br_b (fun e => ?_) (fun e => ?_)⟩
  · have : w.step = (false, w) := by unfold Pow.step; rw [if_pos e]
    rw [this]; exact ⟨rfl, H⟩
  have ho : w.off = false := e
  refine join_in (join_in ⟨a, rfl, _, (H1.box 0 rfl).cell rfl, br_b (fun e2 => ?_) (fun e2 => ?_)⟩)
  · obtain ⟨k, hf⟩ : ∃ k, w.fuse = some k := Option.isSome_iff_exists.1 e2
    obtain ⟨rfl, hk⟩ := hl k hf
    have ec : powC w (k : Int) = [.bool false, .bool true, .int .i64 k, .int .i64 w.offs] := by simp [powC, ho, hf]
    rw [ec] at H1
    refine ⟨a, rfl, _, (H1.box 0 rfl).cell rfl, br_eq (fun e3 => ?_) (fun e3 => ?_)⟩
    · have hk0 : k = 0 := by omega
      subst hk0
      have hs : w.step = (false, ⟨true, some 0, IntKind.wrap .i64 (w.offs + 1)⟩) := by unfold Pow.step; rw [if_neg (by simp [ho]), hf]
      rw [hs]
      refine ⟨a, rfl, H1.store0 C_ok 0 rfl rfl [.bool true] rfl rfl rfl (by simp) fun h2 H2 => ?_⟩
      refine ⟨a, rfl, w.offs, (H2.box 0 rfl).cell rfl, a, rfl, H2.store C_ok 0 rfl rfl 3 [.int .i64 (IntKind.wrap .i64 (w.offs + 1))] rfl rfl rfl (by simp [powC]) fun h3 H3 => ⟨rfl, ?_⟩⟩
      refine SpB.powClose (l := ((0 : Nat) : Int)) (fun k' hk' => by cases hk'; exact ⟨rfl, by decide⟩) ?_
      exact H3
    · obtain ⟨j, rfl⟩ : ∃ j, k = j + 1 := ⟨k - 1, by omega⟩
      have hs : w.step = (true, ⟨false, some j, w.offs⟩) := by unfold Pow.step; rw [if_neg (by simp [ho]), hf]
      rw [hs]
      refine ⟨a, rfl, _, (H1.box 0 rfl).cell rfl, br_b (fun _ => ?_) fun e => by cases e⟩
      refine ⟨a, rfl, _, (H1.box 0 rfl).cell rfl, a, rfl, H1.store C_ok 0 rfl rfl 2 [.int .i64 (IntKind.wrap .i64 (((j + 1 : Nat) : Int) - 1))] rfl rfl rfl (by simp [powC]) fun h3 H3 => ⟨rfl, ?_⟩⟩
      refine SpB.powClose (l := (j : Int)) (fun k' hk' => by cases hk'; exact ⟨rfl, by omega⟩) ?_
      rw [Go.Vc.wrap_small _ (by omega) (by omega)] at H3
      have e4 : ((j + 1 : Nat) : Int) - 1 = (j : Int) := by omega
      rw [e4] at H3
      exact H3
  · have hf : w.fuse = none := by cases hf : w.fuse with | none => rfl | some k => rw [hf] at e2; cases e2
    have hs : w.step = (true, w) := by unfold Pow.step; rw [if_neg (by simp [ho]), hf]
    rw [hs]
    refine br_b (fun e => by cases e) fun _ => ⟨a, rfl, _, (H1.box 0 rfl).cell rfl, br_b (fun e3 => by rw [hf] at e3; cases e3) fun _ => ⟨rfl, H⟩⟩
end
abbrev rdrvC (pw : Addr) (d : Drv) (s b : Sl) : List Value := [.int .i64 d.room, .pointer (some pw), .slice s.ptr s.len s.cap, .int .i64 d.wait, .bool d.has, .slice b.ptr b.len b.cap, .bool d.lost]
abbrev RDrvA (pw a : Addr) (d : Drv) : HP := DrvG T_wellspringref21_Drive (rdrvC pw) a d
section
variable {B : Blocks} {h0 h h' : Heap} {As : List HP} {a pw : Addr} {d : Drv} {w : Pow}
theorem rdvnew_spec (n : Int) (pw : Addr) (h : Heap) : Meets Tryz.prog wellspringref21_NewDrive_id #[.int .i64 n, .pointer (some pw)] h fun v h' =>
    (1 ≤ n ∧ n ≤ 512 → ∃ a, v = .pointer (some a) ∧ Sp h h' [RDrvA pw a (Drv.new n.toNat)]) ∧ (¬ (1 ≤ n ∧ n ≤ 512) → v = .pointer none ∧ Sp h h' []) := by
  refine wellspringref21_NewDrive_run n (some pw) ?_
  unfold wellspringref21_NewDrive_m
  refine join_in (br_dec (fun e => ⟨fun hh => absurd hh (by omega), fun _ => ⟨rfl, Sp.refl h⟩⟩) fun e1 => br_dec (fun e => ⟨fun hh => absurd hh (by omega), fun _ => ⟨rfl, Sp.refl h⟩⟩) fun e2 => br_b (fun e => by cases e) fun _ => ?_)
  refine (Sp.refl h).boxed fun a h1 H1 => ⟨fun _ => ⟨a, rfl, ?_⟩, fun hh => absurd (by omega) hh⟩
  refine SpB.dClose (s := ⟨none, 0, 0⟩) (b := ⟨none, 0, 0⟩) (DrvOk.new (by omega)) ?_
  have e : ((n.toNat : Nat) : Int) = n := by omega
  have H2 := ((H1.wNil T_sl_uint8 T_uint8 1 u8v).wNil T_sl_uint8 T_uint8 1 u8v).selT 3 [2, 1, 0]
  have e2 : rdrvC pw (Drv.new n.toNat) ⟨none, 0, 0⟩ ⟨none, 0, 0⟩ = [.int .i64 n, .pointer (some pw), .slice none 0 0, .int .i64 0, .bool false, .slice none 0 0, .bool false] := by
    simp only [rdrvC, Drv.new, e]; rfl
  rw [e2]; exact H2
theorem rappend_spec (x : Sl) (row : List UInt8) (H : SpB B h0 h (RDrvA pw a d :: RPowA pw w :: As)) (hx : St B h0 As fun h => Rd h x 1 u8v row) (hr : row.length ≤ 2 ^ 20) :
    Meets Tryz.prog wellspringref21_Drive_Append_id #[.pointer (some a), .slice x.ptr x.len x.cap] h fun v h' => v = .int .i64 (d.append w row).1 ∧ SpB B h0 h' (RDrvA pw a (d.append w row).2.2 :: RPowA pw (d.append w row).2.1 :: As) := by
  refine wellspringref21_Drive_Append_run (some a) x ?_
  unfold wellspringref21_Drive_Append_m
  have hxl := (hx.at [_, _] H).len
  obtain ⟨ok, s, b, H1⟩ := H.dOpen
  have hb := H1.box 0 rfl
  obtain ⟨hsl, _⟩ := SpB.wLen (H1.selT 4 [1])
  have hroom := ok.room
  have hlen := ok.len
  have hwait := ok.wait
  have same : ∀ (e : Int), d.append w row = (e, w, d) → (Value.int .i64 e = .int .i64 (d.append w row).1 ∧ SpB B h0 h (RDrvA pw a (d.append w row).2.2 :: RPowA pw (d.append w row).2.1 :: As)) := fun e he => by
    rw [he]; exact ⟨rfl, H⟩
  refine br_ne (fun e => same 1 (by unfold Drv.append; rw [if_pos (by omega)])) fun e64 => ?_
  have e64' : row.length = 64 := by omega
  refine ⟨a, rfl, d.lost, hb.cell rfl, br_b (fun e => same 5 ?_) fun elost => ?_⟩
  · unfold Drv.append; rw [if_neg (by omega), if_pos e]
  refine ⟨a, rfl, s, hb.cell rfl, a, rfl, (d.room : Int), hb.cell0 rfl, br_eq (fun e => same 7 ?_) fun eroom => ?_⟩
  · unfold Drv.append; rw [if_neg (by omega), if_neg (by simp [elost]), if_pos (by omega)]
  have H1p := H1.selT 4 [3, 0, 1, 2]
  obtain ⟨l, hl, H1q⟩ := H1p.powOpen
  have e0 : ∀ {P : Prop}, d.room ≤ d.l.length → P := fun hh => absurd (show (s.len : Int) = d.room by omega) eroom
  refine ⟨a, rfl, some pw, hb.cell rfl, pw, rfl, w.off, (H1q.box 0 rfl).cell0 rfl, a, rfl, some pw, hb.cell rfl, (rstep_spec H1p).mono ?_⟩
  rintro _ h2 ⟨rfl, H2⟩
  have H2 := H2.selT 4 [1, 2, 3, 0]
  have hb2 := H2.box 0 rfl
  refine ⟨_, rfl, ?_⟩
  by_cases eoff : w.off = true
  · have hs : w.step = (false, w) := by unfold Pow.step; rw [if_pos eoff]
    have er : d.append w row = (14, w, d) := by unfold Drv.append; rw [if_neg (by omega), if_neg (by simp [elost]), if_neg (fun hh => e0 hh), if_pos eoff]
    rw [hs] at H2 ⊢
    refine join_in (br_not (fun e => absurd e (by simp [eoff])) fun _ => br_not (fun _ => ?_) fun e => by cases e)
    rw [er]
    exact ⟨rfl, H2.dClose ok⟩
  have eoff' : w.off = false := by simpa using eoff
  have eres : d.append w row = if w.step.1 then (0, w.step.2, { d with l := d.l ++ [row], wait := d.wait + 1, laid := [], has := false }) else (14, w.step.2, { d with l := d.l ++ [row], wait := d.wait + 1 }) := by
    unfold Drv.append; rw [if_neg (by omega), if_neg (by simp [elost]), if_neg (fun hh => e0 hh), if_neg eoff]
  rw [eres]
  refine join_in (br_not (fun _ => ?_) fun e => absurd e (by simp [eoff']))
  refine ⟨a, rfl, s, hb2.cell rfl, a, rfl, (d.wait : Int), hb2.cell rfl, ?_⟩
  have hx2 := hx.at [_, _, _, _] H2
  refine (H2.nil T_uint8 1 u8v).front1.append C_ok 0 rfl eU8 ⟨_, _, rfl, rfl⟩ rfl (by decide) (fun _ => rfl) hx2 one_u8 (by simp; omega) fun r h4 H4 => ?_
  have H4 : SpB B h0 h4 (OwnA T_uint8 r 1 u8v row :: BoxA a T_wellspringref21_Drive (rdrvC pw d s b) :: RowsD s d.l :: RowsD b d.laid :: RPowA pw w.step.2 :: As) := H4
  have hb4 := H4.box 1 rfl
  refine ⟨⟨hb4.cell rfl, hb4.cell rfl, trivial⟩, ?_⟩
  refine H4.litHeld C_ok slv eSlU8 rfl [r] rfl (show 1 * 1 ≤ 2 ^ 20 by decide) rfl ⟨hb4.cell rfl, hb4.cell rfl, trivial⟩ ?_
  have H4' : SpB B h0 h4 (RowsD s d.l :: OwnA T_uint8 r 1 u8v row :: BoxA a T_wellspringref21_Drive (rdrvC pw d s b) :: RowsD b d.laid :: RPowA pw w.step.2 :: As) := H4.selT 5 [2, 0, 1, 3, 4]
  refine H4'.wPush C_ok eSlU8 (by omega) fun s' h6 H6 => ?_
  have H6 : SpB B h0 h6 (BoxA a T_wellspringref21_Drive (rdrvC pw d s b) :: RowsD s' (d.l ++ [row]) :: RowsD b d.laid :: RPowA pw w.step.2 :: As) := H6.selT 4 [1, 0, 2, 3]
  refine ⟨⟨(H6.box 0 rfl).cell rfl, trivial⟩, ?_⟩
  refine ⟨a, rfl, H6.store C_ok 0 rfl rfl 2 [.slice s'.ptr s'.len s'.cap] rfl rfl rfl (by simp [rdrvC]) fun h7 H7 => ⟨trivial, ?_⟩⟩
  refine ⟨a, rfl, ?_⟩
  rw [Go.Vc.wrap_small ((d.wait : Int) + 1) (by omega) (by omega)]
  refine H7.store C_ok 0 rfl rfl 3 [.int .i64 ((d.wait : Int) + 1)] rfl rfl rfl (by simp [rdrvC]) fun h8 H8 => ⟨trivial, ?_⟩
  obtain ⟨d1, hd1⟩ : ∃ d1 : Drv, d1 = { d with l := d.l ++ [row], wait := d.wait + 1 } := ⟨_, rfl⟩
  have ok1 : DrvOk d1 := by
    subst hd1
    refine ⟨by simp; omega, by simp; omega, ok.room, fun c hc => ?_, ok.laid, ok.cellL⟩
    rcases List.mem_append.1 hc with hc | hc
    · exact ok.cell c hc
    · rw [List.mem_singleton.1 hc]; exact e64'
  have H8' : SpB B h0 h8 (BoxA a T_wellspringref21_Drive (rdrvC pw d1 s' b) :: RowsD s' d1.l :: RowsD b d1.laid :: RPowA pw w.step.2 :: As) := by rw [hd1]; exact H8
  refine br_not (fun e => ?_) (fun e => ?_)
  · rw [e, if_neg (by decide)]
    rw [hd1] at H8' ok1
    exact ⟨rfl, H8'.dClose ok1⟩
  · rw [e, if_pos rfl]
    refine ⟨a, rfl, H8'.store C_ok 0 rfl rfl 4 [.bool false] rfl rfl rfl (by simp [rdrvC]) fun h9 H9 => ?_⟩
    refine ⟨a, rfl, H9.store C_ok 0 rfl rfl 5 [.slice none 0 0] rfl rfl rfl (by simp [rdrvC]) fun h10 H10 => ⟨rfl, ?_⟩⟩
    rw [hd1] at H10 ok1
    refine SpB.dClose (s := s') (b := ⟨none, 0, 0⟩) ⟨ok1.wait, ok1.len, ok1.room, ok1.cell, Nat.zero_le _, by simp⟩ ?_
    exact ((H10.wNil T_sl_uint8 T_uint8 1 u8v).selT 5 [1, 2, 0, 4])
theorem rsync_spec (H : SpB B h0 h (RDrvA pw a d :: RPowA pw w :: As)) :
    Meets Tryz.prog wellspringref21_Drive_Sync_id #[.pointer (some a)] h fun v h' => v = .int .i64 (d.sync w).1 ∧ SpB B h0 h' (RDrvA pw a (d.sync w).2.2 :: RPowA pw (d.sync w).2.1 :: As) := by
  refine wellspringref21_Drive_Sync_run (some a) ?_
  unfold wellspringref21_Drive_Sync_m
  obtain ⟨ok, s, b, H1⟩ := H.dOpen
  have hb := H1.box 0 rfl
  refine ⟨a, rfl, d.lost, hb.cell rfl, br_b (fun e => ?_) fun elost => ?_⟩
  · have : d.sync w = (5, w, d) := by unfold Drv.sync; rw [if_pos e]
    rw [this]; exact ⟨rfl, H⟩
  refine ⟨a, rfl, some pw, hb.cell rfl, (rstep_spec (H1.selT 4 [3, 0, 1, 2])).mono ?_⟩
  rintro _ h2 ⟨rfl, H2⟩
  have H2 := H2.selT 4 [1, 2, 3, 0]
  have eres : d.sync w = if w.step.1 then (0, w.step.2, { { d with wait := 0 } with laid := [], has := false }) else (14, w.step.2, d) := by
    unfold Drv.sync; rw [if_neg (by simp [elost])]
  rw [eres]
  refine ⟨_, rfl, br_not (fun e => ?_) (fun e => ?_)⟩
  · rw [e]; exact ⟨rfl, H2.dClose ok⟩
  · rw [e]
    refine ⟨a, rfl, H2.store C_ok 0 rfl rfl 3 [.int .i64 0] rfl rfl rfl (by simp [rdrvC]) fun h3 H3 => ?_⟩
    refine ⟨a, rfl, H3.store C_ok 0 rfl rfl 4 [.bool false] rfl rfl rfl (by simp [rdrvC]) fun h4 H4 => ?_⟩
    refine ⟨a, rfl, H4.store C_ok 0 rfl rfl 5 [.slice none 0 0] rfl rfl rfl (by simp [rdrvC]) fun h5 H5 => ⟨rfl, ?_⟩⟩
    refine SpB.dClose (s := s) (b := ⟨none, 0, 0⟩) ⟨Nat.zero_le _, ok.len, ok.room, ok.cell, Nat.zero_le _, by simp⟩ ?_
    exact ((H5.wNil T_sl_uint8 T_uint8 1 u8v).selT 5 [1, 2, 0, 4])
theorem RDrvA.box (H : SpB B h0 h (RDrvA pw a d :: As)) : DrvOk d ∧ ∃ s b : Sl, Box h a T_wellspringref21_Drive (rdrvC pw d s b) ∧ Rd2 h s 1 u8v d.l ∧ s.len = d.l.length := by
  obtain ⟨ok, s, b, H1⟩ := H.dOpen
  exact ⟨ok, s, b, H1.box 0 rfl, (H1.selT 3 [1]).wRd fun _ => rfl, (SpB.wLen (H1.selT 3 [1])).1⟩
end
end Go.Proofs.YtmaknfkhibljfaaGreat
namespace Go.Proofs.YtmaknfkhibljfaaGreat
open Go Go.Vc Go.Proofs Wl
set_option maxRecDepth 100000
theorem rsum_spec (b : Sl) (l : List UInt8) (h : Heap) (hb : Rd h b 1 u8v l) (hs : l.length ≤ 2 ^ 40) : Meets Tryz.prog wellspringref15_Sum_id #[.slice b.ptr b.len b.cap] h fun v h' => v = .int .u32 (crcAll l).toNat ∧ h' = h := by
  refine wellspringref15_Sum_run b ?_
  unfold wellspringref15_Sum_m
  have hl := hb.len
  refine loop_inv (fun t : Nat => (((crcGo (l.take t)).toNat : Int), (t : Int))) (fun t h' => t ≤ l.length ∧ h' = h) (fun t => l.length - t) 0 rfl ⟨by omega, rfl⟩ ?_
  rintro i h1 ⟨hi, rfl⟩
  refine br_dec (fun e => ?_) (fun e => ?_)
  · have hi' : i < l.length := by
      have e' : (i : Int) < (b.len : Int) := e
      omega
    refine hb.get1 i rfl hi' (l[i].toNat : Int) rfl ?_
    have e1 : IntKind.wrap .u32 (l[i].toNat : Int) = ((BitVec.ofNat 32 l[i].toNat).toNat : Int) := by rw [w32_wrapI, BitVec.ofInt_natCast]
    rw [e1, xor32]
    refine loop_inv (fun k : Nat => (((crcBits k (crcGo (l.take i) ^^^ BitVec.ofNat 32 l[i].toNat)).toNat : Int), (k : Int))) (fun k h' => k ≤ 8 ∧ h' = h1) (fun k => 8 - k) 0 rfl ⟨by omega, rfl⟩ ?_
    rintro k h2 ⟨hk, rfl⟩
    obtain ⟨c, hc⟩ : ∃ c, c = crcBits k (crcGo (l.take i) ^^^ BitVec.ofNat 32 l[i].toNat) := ⟨_, rfl⟩
    dsimp only
    rw [← hc]
    refine br_dec (fun e2 => ?_) (fun e2 => ?_)
    · have hstep : ∀ n : W32, n = crcBit c → ∃ t' : Nat, (((n.toNat : Nat) : Int), IntKind.wrap .i64 ((k : Int) + 1)) = (((crcBits t' (crcGo (l.take i) ^^^ BitVec.ofNat 32 l[i].toNat)).toNat : Int), (t' : Int)) ∧ (t' ≤ 8 ∧ h2 = h2) ∧ 8 - t' < 8 - k := fun n hn =>
        ⟨k + 1, by rw [Go.Vc.wrap_small _ (by omega) (by omega), hn, hc]; rfl, ⟨by omega, rfl⟩, by omega⟩
      have e3 : IntKind.wrap .u32 ((BitVec.ofInt (IntKind.bits .u32) (c.toNat : Int) &&& BitVec.ofInt (IntKind.bits .u32) (1 : Int)).toNat : Nat) = ((c &&& 1#32).toNat : Int) := and32 c 1#32
      have e4 : IntKind.wrap .u32 ((BitVec.ofInt (IntKind.bits .u32) ((c >>> 1).toNat : Int) ^^^ BitVec.ofInt (IntKind.bits .u32) (3988292384 : Int)).toNat : Nat) = (((c >>> 1) ^^^ 3988292384#32).toNat : Int) := xor32 (c >>> 1) 3988292384#32
      rw [e3, w32_shr, e4]
      refine br_eq (fun e5 => ⟨by decide, hstep _ ?_⟩) (fun e5 => ⟨by decide, hstep _ ?_⟩)
      · unfold crcBit; rw [if_pos ((w32_low c).1 e5)]
      · unfold crcBit; rw [if_neg (fun hh => e5 ((w32_low c).2 hh))]
    · have hk8 : k = 8 := by omega
      subst hk8
      refine ⟨i + 1, ?_, ⟨by omega, rfl⟩, by omega⟩
      rw [Go.Vc.wrap_small _ (by omega) (by omega), take_snoc _ _ hi', crcGo_snoc, hc]; rfl
  · have hie : i = l.length := by
      have e' : ¬ (i : Int) < (b.len : Int) := e
      omega
    subst hie
    refine ⟨?_, rfl⟩
    rw [List.take_length]
    exact congrArg (Value.int .u32) (xor32 4294967295#32 (crcGo l))
theorem highB_take (n : Int) (k t : Nat) (ht : t < k) : (highB n k).take t ++ [b8 (Int.fdiv n (2 ^ (8 * (k - 1 - t))))] = (highB n k).take (t + 1) := by
  rw [take_snoc _ _ (by rw [highB_len]; exact ht)]
  congr 2
  simp [highB]
section
variable {B : Blocks} {h0 h h' : Heap} {As : List HP}
theorem rhigh_spec (s : Sl) (l : List UInt8) (n : Int) (k : Nat) (hk : k ≤ 4) (hl : l.length ≤ 2 ^ 30) (H : SpB B h0 h (OwnA T_uint8 s 1 u8v l :: As)) :
    Meets Tryz.prog wellspringref15_high_id #[.slice s.ptr s.len s.cap, .int .i64 n, .int .i64 k] h fun v h' => ∃ r : Sl, v = .slice r.ptr r.len r.cap ∧ SpB B h0 h' (OwnA T_uint8 r 1 u8v (l ++ highB n k) :: As) := by
  refine wellspringref15_high_run s n k ?_
  unfold wellspringref15_high_m
  rw [Go.Vc.wrap_small ((k : Int) - 1) (by omega) (by omega)]
  refine loop_inv (fun t : Sl × Nat => (t.1, (k : Int) - 1 - t.2)) (fun t h' => t.2 ≤ k ∧ SpB B h0 h' (OwnA T_uint8 t.1 1 u8v (l ++ (highB n k).take t.2) :: As)) (fun t => k - t.2) (s, 0) (by simp) ⟨by simp, by simpa using H⟩ ?_
  rintro ⟨r, t⟩ h1 ⟨ht, H1⟩
  dsimp only at *
  refine br_dec (fun e => ?_) (fun e => ?_)
  · have ht' : t < k := by omega
    have e1 : IntKind.wrap .i64 ((8 : Int) * ((k : Int) - 1 - t)) = ((8 * (k - 1 - t) : Nat) : Int) := by
      rw [Go.Vc.wrap_small _ (by omega) (by omega)]; omega
    rw [e1, Int.toNat_natCast]
    have e2 : min (8 * (k - 1 - t)) (IntKind.bits .i64) = 8 * (k - 1 - t) := by
      have : IntKind.bits .i64 = 64 := rfl
      omega
    rw [e2, b8_wrap]
    refine ⟨by omega, ?_⟩
    refine H1.push C_ok 0 rfl eU8 rfl (by decide) (fun _ => rfl) one_u8 (b8 (Int.fdiv n (2 ^ (8 * (k - 1 - t))))) rfl (by decide) (by simp [highB_len]; omega) fun s' h2 H2 => ?_
    refine ⟨(s', t + 1), ?_, ⟨by dsimp only; omega, ?_⟩, by dsimp only; omega⟩
    · dsimp only
      have e3 : IntKind.wrap .i64 ((k : Int) - 1 - t - 1) = (k : Int) - 1 - ((t + 1 : Nat) : Int) := by
        rw [Go.Vc.wrap_small _ (by omega) (by omega)]; omega
      rw [e3]
    · dsimp only
      rw [← highB_take n k t ht', ← List.append_assoc]
      exact H2
  · have : t = k := by omega
    subst this
    rw [List.take_of_length_le (by rw [highB_len]; omega)] at H1
    exact ⟨r, rfl, H1⟩
end
theorem rput_spec (kind : Int) (body : Sl) (l : List UInt8) (h : Heap) (hb : Rd h body 1 u8v l) (hs : l.length ≤ 2 ^ 40) : Meets Tryz.prog wellspringref15_PutCell_id #[.int .i64 kind, .slice body.ptr body.len body.cap] h fun v h' => ∃ r : Sl, v = .slice r.ptr r.len r.cap ∧ Sp h h' [OwnA T_uint8 r 1 u8v (putCell kind l)] := by
  refine wellspringref15_PutCell_run kind body ?_
  unfold wellspringref15_PutCell_m
  have hl := hb.len
  have bad : ¬ (1 ≤ kind ∧ kind ≤ 255 ∧ l.length ≤ 55) → ∃ r : Sl, Value.slice none 0 0 = .slice r.ptr r.len r.cap ∧ Sp h h [OwnA T_uint8 r 1 u8v (putCell kind l)] := fun e => by
    unfold putCell; rw [if_neg e]; exact ⟨⟨none, 0, 0⟩, rfl, (Sp.refl h).nil T_uint8 1 u8v⟩
  refine join_in (br_dec (fun e => bad (by omega)) fun e1 => br_dec (fun e => bad (by omega)) fun e2 => br_dec (fun e => bad (by omega)) fun e3 => ?_)
  rw [b8_wrap]
  refine (Sp.refl h).lit C_ok u8v eU8 rfl [87, 115, 1, b8 kind] rfl (show 4 * 1 ≤ 2 ^ 20 by decide) rfl fun v3 h3 H3 => ?_
  refine H3.append C_ok 0 rfl eU8 ⟨_, _, rfl, rfl⟩ rfl (by decide) (fun _ => rfl) (Seq.up hb H3.pres) one_u8 (by simp; omega) fun s4 h4 H4 => ?_
  have H4 : Sp h h4 [OwnA T_uint8 s4 1 u8v ([87, 115, 1, b8 kind] ++ l)] := H4
  refine loop_inv (fun t : Sl × Nat => t.1) (fun t h' => t.2 ≤ 55 - l.length ∧ Sp h h' [OwnA T_uint8 t.1 1 u8v ([87, 115, 1, b8 kind] ++ l ++ List.replicate t.2 0)]) (fun t => 55 - l.length - t.2) (s4, 0) rfl ⟨by simp, by simpa using H4⟩ ?_
  rintro ⟨s5, j⟩ h5 ⟨hj, H5⟩
  dsimp only at *
  have h5l := (H5.own 0 rfl).len
  simp only [List.length_append, List.length_cons, List.length_nil, List.length_replicate] at h5l
  refine br_dec (fun e => ?_) (fun e => ?_)
  · refine H5.push C_ok 0 rfl eU8 rfl (by decide) (fun _ => rfl) one_u8 0 rfl (by decide) (by simp; omega) fun s6 h6 H6 => ?_
    refine ⟨(s6, j + 1), rfl, ⟨by dsimp only; omega, ?_⟩, by dsimp only; omega⟩
    dsimp only
    rw [List.replicate_succ', ← List.append_assoc]; exact H6
  · have hje : j = 55 - l.length := by omega
    subst hje
    have ec : [87, 115, 1, b8 kind] ++ l ++ List.replicate (55 - l.length) 0 = cellHead kind l := rfl
    rw [ec] at H5
    have hcl : (cellHead kind l).length = 59 := cellHead_len (by omega)
    refine (rsum_spec s5 (cellHead kind l) h5 (H5.seq 0 rfl fun _ => rfl) (by omega)).mono ?_
    rintro _ h6 ⟨rfl, rfl⟩
    obtain ⟨c, hc⟩ : ∃ c, c = crcAll (cellHead kind l) := ⟨_, rfl⟩
    rw [← hc]
    refine ⟨_, rfl, by decide, by decide, by decide, ?_⟩
    have e8 : min (8 : Int).toNat (IntKind.bits .u32) = 8 := rfl
    have e16 : min (16 : Int).toNat (IntKind.bits .u32) = 16 := rfl
    have e24 : min (24 : Int).toNat (IntKind.bits .u32) = 24 := rfl
    rw [e8, e16, e24, b8_wrap, b8_wrap, b8_wrap, b8_wrap]
    refine H5.lit C_ok u8v eU8 rfl [b8 (c.toNat : Int), b8 (Int.fdiv (c.toNat : Int) (2 ^ 8)), b8 (Int.fdiv (c.toNat : Int) (2 ^ 16)), b8 (Int.fdiv (c.toNat : Int) (2 ^ 24)), 165] rfl (show 5 * 1 ≤ 2 ^ 20 by decide) rfl fun v7 h7 H7 => ?_
    refine H7.append C_ok 0 rfl eU8 ⟨_, _, rfl, rfl⟩ rfl (by decide) (fun _ => rfl) (H7.seq 1 rfl fun _ => rfl) one_u8 (by simp [hcl]) fun s8 h8 H8 => ⟨s8, rfl, ?_⟩
    have e11 : cellHead kind l ++ [b8 (c.toNat : Int), b8 (Int.fdiv (c.toNat : Int) (2 ^ 8)), b8 (Int.fdiv (c.toNat : Int) (2 ^ 16)), b8 (Int.fdiv (c.toNat : Int) (2 ^ 24)), 165] = putCell kind l := by
      unfold putCell
      rw [if_pos ⟨by omega, by omega, by omega⟩, ← hc]
      simp [low4, List.range_succ]
    rw [e11] at H8
    exact H8.sel [0]
end Go.Proofs.YtmaknfkhibljfaaGreat
namespace Wl
open Go
theorem bytesLess_not : ∀ x y : List UInt8, (Op.bytesLess x y || x == y) = !Op.bytesLess y x
  | [], [] => rfl
  | [], _ :: _ => rfl
  | _ :: _, [] => by simp [Op.bytesLess]
  | a :: x, b :: y => by
    have ih := bytesLess_not x y
    have hab : a < b ∨ a = b ∨ b < a := by
      rcases Nat.lt_trichotomy a.toNat b.toNat with h | h | h
      · exact .inl (UInt8.lt_iff_toNat_lt.2 h)
      · exact .inr (.inl (UInt8.toNat_inj.1 h))
      · exact .inr (.inr (UInt8.lt_iff_toNat_lt.2 h))
    rcases hab with h | rfl | h
    · have h1 : ¬ b < a := fun h' => by have := UInt8.lt_iff_toNat_lt.1 h; have := UInt8.lt_iff_toNat_lt.1 h'; omega
      have h2 : b ≠ a := fun h' => by subst h'; exact h1 h
      simp [Op.bytesLess, h, h1, h2]
    · have h1 : ¬ a < a := fun h' => by have := UInt8.lt_iff_toNat_lt.1 h'; omega
      simp only [Op.bytesLess, h1, decide_false, Bool.false_or, beq_self_eq_true, Bool.true_and]
      rw [← ih]
      congr 1
      simp
    · have h1 : ¬ a < b := fun h' => by have := UInt8.lt_iff_toNat_lt.1 h; have := UInt8.lt_iff_toNat_lt.1 h'; omega
      have h2 : a ≠ b := fun h' => by subst h'; exact h1 h
      simp [Op.bytesLess, h, h1, h2]
end Wl
namespace Go.Proofs.YtmaknfkhibljfaaGreat
open Go Go.Vc Go.Proofs Wl
set_option maxRecDepth 100000
theorem rname_spec (s : ByteArray) (h : Heap) (hs : s.size ≤ 2 ^ 40) : Meets Tryz.prog wellspringref15_Name_id #[.string s] h fun v h' => v = .bool (nameB s) ∧ h' = h := by
  refine wellspringref15_Name_run s ?_
  unfold wellspringref15_Name_m
  have hsz : s.data.toList.length = s.size := strB_len s
  refine loop_inv (fun i : Nat => (i : Int)) (fun i h' => i ≤ s.size ∧ h' = h ∧ ∀ c ∈ s.data.toList.take i, nameCh c = true) (fun i => s.size - i) 0 rfl ⟨by omega, rfl, by simp⟩ ?_
  rintro i h2 ⟨hi, rfl, hall⟩
  refine br_dec (fun e => ?_) (fun e => ?_)
  · have hi' : i < s.data.toList.length := by
      have e' : (i : Int) < (s.size : Int) := e
      omega
    obtain ⟨c, hc⟩ : ∃ c, c = s.data.toList[i] := ⟨_, rfl⟩
    refine ⟨c, ⟨by omega, ?_⟩, ?_⟩
    · rw [Int.toNat_natCast, ← Array.getElem?_toList, List.getElem?_eq_getElem hi', hc]
    have good : nameCh c = true → ∃ t' : Nat, IntKind.wrap .i64 ((i : Int) + 1) = (t' : Int) ∧ (t' ≤ s.size ∧ h2 = h2 ∧ ∀ c ∈ s.data.toList.take t', nameCh c = true) ∧ s.size - t' < s.size - i := fun hg =>
      ⟨i + 1, by rw [Go.Vc.wrap_small _ (by omega) (by omega)]; rfl, ⟨by omega, rfl, fun x hx => by
        rw [take_snoc _ _ hi'] at hx
        rcases List.mem_append.1 hx with hx | hx
        · exact hall x hx
        · rw [List.mem_singleton.1 hx, ← hc]; exact hg⟩, by omega⟩
    have bad : nameCh c = false → Value.bool false = .bool (nameB s) ∧ h2 = h2 := fun hg => by
      refine ⟨?_, rfl⟩
      unfold nameB
      have : s.data.toList.all nameCh = false := List.all_eq_false.2 ⟨c, by rw [hc]; exact List.getElem_mem hi', by rw [hg]; simp⟩
      rw [this]; rfl
    have hch : nameCh c = true ↔ ((97 ≤ (c.toNat : Int) ∧ (c.toNat : Int) ≤ 122) ∨ (48 ≤ (c.toNat : Int) ∧ (c.toNat : Int) ≤ 57) ∨ (c.toNat : Int) = 45) := by
      unfold nameCh; simp [or_assoc]; omega
    have hno : nameCh c = false ↔ ¬ ((97 ≤ (c.toNat : Int) ∧ (c.toNat : Int) ≤ 122) ∨ (48 ≤ (c.toNat : Int) ∧ (c.toNat : Int) ≤ 57) ∨ (c.toNat : Int) = 45) := by
      rw [← hch]; cases nameCh c <;> simp
    have last : ¬ (97 ≤ (c.toNat : Int) ∧ (c.toNat : Int) ≤ 122) → ¬ (48 ≤ (c.toNat : Int) ∧ (c.toNat : Int) ≤ 57) → Br (!((c.toNat : Nat) == (45 : Int))) (Value.bool false = .bool (nameB s) ∧ h2 = h2) (∃ t' : Nat, IntKind.wrap .i64 ((i : Int) + 1) = (t' : Int) ∧ (t' ≤ s.size ∧ h2 = h2 ∧ ∀ c ∈ s.data.toList.take t', nameCh c = true) ∧ s.size - t' < s.size - i) := fun n1 n2 => by
      refine br_ne (fun e3 => bad (hno.2 (by omega))) fun e3 => good (hch.2 (by omega))
    exact br_dec (fun e1 => br_dec (fun e2 => good (hch.2 (by omega))) fun e2 => br_dec (fun e3 => br_dec (fun e4 => good (hch.2 (by omega))) fun e4 => last (by omega) (by omega)) fun e3 => last (by omega) (by omega)) fun e1 => br_dec (fun e3 => br_dec (fun e4 => good (hch.2 (by omega))) fun e4 => last (by omega) (by omega)) fun e3 => last (by omega) (by omega)
  · have e' : ¬ (i : Int) < (s.size : Int) := e
    rw [List.take_of_length_le (by omega)] at hall
    have hA : s.data.toList.all nameCh = true := List.all_eq_true.2 hall
    refine br_dec (fun e1 => ⟨?_, rfl⟩) (fun e1 => ⟨?_, rfl⟩)
    · unfold nameB
      rw [hA, decide_eq_true (show 1 ≤ s.size by omega)]
      congr 1; simp; omega
    · unfold nameB
      rw [hA, decide_eq_false (show ¬ 1 ≤ s.size by omega)]; rfl
theorem ceil_div (n w : Int) (hn : 0 < n) (hw : 0 < w) : (if n % w > 0 then n / w + 1 else n / w) = (n - 1) / w + 1 := by
  have h1 := Int.emod_add_mul_ediv n w
  have h2 := Int.emod_nonneg n (show w ≠ 0 by omega)
  have h3 := Int.emod_lt_of_pos n hw
  obtain ⟨q, hq⟩ : ∃ q, q = n / w := ⟨_, rfl⟩
  obtain ⟨r, hr⟩ : ∃ r, r = n % w := ⟨_, rfl⟩
  rw [← hq, ← hr] at h1
  rw [← hr] at h2 h3
  rw [← hr, ← hq]
  by_cases h : r > 0
  · rw [if_pos h]
    have e : n - 1 = (r - 1) + w * q := by omega
    rw [e, Int.add_mul_ediv_left _ _ (by omega), Int.ediv_eq_zero_of_lt (by omega) (by omega)]; omega
  · rw [if_neg h]
    have e : n - 1 = (w - 1) + w * (q - 1) := by rw [Int.mul_sub]; omega
    rw [e, Int.add_mul_ediv_left _ _ (by omega), Int.ediv_eq_zero_of_lt (by omega) (by omega)]; omega
theorem rcount_spec (p : Pm) (n : Int) (h : Heap) (hn : n ≤ 2 ^ 40) : Meets Tryz.prog wellspringref15_Count_id #[pmv p, .int .i64 n] h fun v h' => v = .int .i64 (countP p n) ∧ Sp h h' [] := by
  refine wellspringref15_Count_run p n ?_
  unfold wellspringref15_Count_m
  refine (Sp.refl h).boxed fun a1 h1 H1 => ?_
  refine join_in ⟨p, (H1.box 0 rfl).cells0 _ rfl, (refMay_spec p h1).mono ?_⟩
  rintro _ h2 ⟨rfl, R2⟩
  have H2 := H1.up R2.pres
  have hb := H2.box 0 rfl
  refine ⟨_, rfl, br_not (fun e => ⟨by unfold countP; rw [e]; rfl, .zip H2.pres⟩) fun e => ?_⟩
  have em : mayP p = true := by simpa using e
  have hmp := (mayP_iff p).1 em
  have hk : p.1 * p.2.2 ≤ 16 * 24 := Int.mul_le_mul (by omega) (by omega) (by omega) (by omega)
  have hk0 : 0 < p.1 * p.2.2 := Int.mul_pos (by omega) (by omega)
  refine br_dec (fun e1 => ⟨by unfold countP; rw [em, decide_eq_false (by omega)]; rfl, .zip H2.pres⟩) fun e1 => ?_
  refine ⟨p.1, hb.cell0 rfl, p.2.2, hb.cell rfl, ?_⟩
  rw [Go.Vc.wrap_small (p.1 * p.2.2) (by omega) (by omega)]
  refine ⟨by omega, join_in ⟨p.1, hb.cell0 rfl, p.2.2, hb.cell rfl, ?_⟩⟩
  rw [Go.Vc.wrap_small (p.1 * p.2.2) (by omega) (by omega)]
  refine ⟨by omega, ?_⟩
  rw [Int.tdiv_eq_ediv_of_nonneg (by omega), Int.tmod_eq_emod_of_nonneg (by omega)]
  have hd0 : 0 ≤ n / (p.1 * p.2.2) := Int.ediv_nonneg (by omega) (by omega)
  have hd1 : n / (p.1 * p.2.2) ≤ n := Int.ediv_le_self _ (by omega)
  rw [Go.Vc.wrap_small (n / (p.1 * p.2.2)) (by omega) (by omega)]
  have key : (if n % (p.1 * p.2.2) > 0 then n / (p.1 * p.2.2) + 1 else n / (p.1 * p.2.2)) = countP p n := by
    unfold countP
    rw [em]
    by_cases h0 : 0 < n
    · rw [decide_eq_true h0]; exact (ceil_div n _ h0 hk0).trans (if_pos rfl).symm
    · have : n = 0 := by omega
      subst this
      rw [if_neg (by simp), if_neg (by simp)]; simp
  refine br_dec (fun e2 => ?_) (fun e2 => ?_)
  · rw [if_pos e2] at key
    rw [Go.Vc.wrap_small _ (by omega) (by omega)]
    exact ⟨by rw [key], .zip H2.pres⟩
  · rw [if_neg e2] at key
    exact ⟨by rw [key], .zip H2.pres⟩
end Go.Proofs.YtmaknfkhibljfaaGreat
namespace Wl
open Go
theorem mayM_iff (m : Mani) : mayM m = true ↔ ((1 ≤ m.seq ∧ m.seq ≤ 2147483647) ∧ (0 ≤ m.next ∧ m.next ≤ 16777216) ∧ mayP m.p = true ∧ 0 ≤ m.extra ∧ m.extra ≤ 16) ∧ (∀ i, i < m.drives.length → riseAt m.drives 63 i = true) ∧ m.objs.length ≤ 12 ∧ ∀ i, i < m.objs.length → objAt m i = true := by
  unfold mayM riseB
  rw [Bool.and_eq_true, Bool.and_eq_true, Bool.and_eq_true, List.all_eq_true, List.all_eq_true, decide_eq_true_eq]
  constructor
  · rintro ⟨h1, h2, h3, h4⟩
    exact ⟨head_iff h1, fun i hi => h2 i (List.mem_range.2 hi), h3, fun i hi => h4 i (List.mem_range.2 hi)⟩
  · rintro ⟨⟨⟨a1, a2⟩, ⟨a3, a4⟩, a5, a6, a7⟩, h2, h3, h4⟩
    refine ⟨?_, fun i hi => h2 i (List.mem_range.1 hi), h3, fun i hi => h4 i (List.mem_range.1 hi)⟩
    unfold headB inB
    simp [*]
theorem riseAt_iff (l : List Int) (most : Int) (i : Nat) : riseAt l most i = true ↔ (0 ≤ l.getD i 0 ∧ l.getD i 0 ≤ most) ∧ (i = 0 ∨ l.getD (i - 1) 0 < l.getD i 0) := by
  unfold riseAt inB; simp
theorem entryB_iff (m : Mani) (e : Ent) : entryB m e = true ↔ nameB e.name = true ∧ (0 ≤ e.object ∧ e.object ≤ m.next - 1) ∧ (0 ≤ e.length ∧ e.length ≤ m.p.1 * m.p.2.2 * 8) ∧ (∀ t ∈ e.tries, 0 ≤ t ∧ t ≤ 15) ∧ (e.tries.length : Int) = countP m.p e.length := by
  unfold entryB inB; simp [List.all_eq_true]
theorem objAt_iff (m : Mani) (i : Nat) : objAt m i = true ↔ entryB m (entAt m.objs i) = true ∧ (i = 0 ∨ nameLt (entAt m.objs (i - 1)).name (entAt m.objs i).name = true) ∧ ∀ y ∈ m.objs.take i, y.object ≠ (entAt m.objs i).object := by
  unfold objAt; simp
end Wl
namespace Go.Proofs.YtmaknfkhibljfaaGreat
open Go Go.Vc Go.Proofs Wl
set_option maxRecDepth 100000
theorem rmay_spec (x : ManV) (m : Mani) (h : Heap) (hx : RdM h x m) (hz : ManSz m) : Meets Tryz.prog wellspringref15_MayMani_id #[manv x] h fun v h' => v = .bool (mayM m) ∧ Sp h h' [] := by
  refine wellspringref15_MayMani_run x ?_
  unfold wellspringref15_MayMani_m
  refine (Sp.refl h).boxed fun a1 h1 H1 => ?_
  have hb := H1.box 0 rfl
  have hp1 : x.2.2.1 = m.p.1 := congrArg (·.1) hx.p
  have hp2 : x.2.2.2.1 = m.p.2.1 := congrArg (·.2.1) hx.p
  have hp3 : x.2.2.2.2.1 = m.p.2.2 := congrArg (·.2.2) hx.p
  have no : ∀ {h' : Heap} {As : List HP}, Sp h h' As → (mayM m = true → False) → Value.bool false = .bool (mayM m) ∧ Sp h h' [] := fun {h' As} H' hn => ⟨by cases hq : mayM m with | false => rfl | true => exact absurd hq hn, .zip H'.pres⟩
  have c0 : cellOf h1 a1 = some (.int .i64 m.seq) := by rw [← hx.seq]; exact hb.cell0 rfl
  have c1 : cellOf h1 (a1.add 1) = some (.int .i64 m.next) := by rw [← hx.next]; exact hb.cell rfl
  refine join_in ⟨m.seq, c0, br_dec (fun e => no H1 fun hh => by have := ((mayM_iff m).1 hh).1; omega) fun e1 => ⟨m.seq, c0, br_dec (fun e => no H1 fun hh => by have := ((mayM_iff m).1 hh).1; omega) fun e2 => ⟨m.next, c1, br_dec (fun e => no H1 fun hh => by have := ((mayM_iff m).1 hh).1; omega) fun e3 => ⟨m.next, c1, br_dec (fun e => no H1 fun hh => by have := ((mayM_iff m).1 hh).1; omega) fun e4 => ?_⟩⟩⟩⟩
  refine ⟨m.p, by rw [← hp1, ← hp2, ← hp3]; exact hb.part3 2 rfl rfl rfl, (refMay_spec m.p _).mono ?_⟩
  rintro _ h2 ⟨rfl, R2⟩
  have H2 := H1.up R2.pres
  have hb2 := H2.box 0 rfl
  have hx2 := hx.up H2.pres
  have c5 : cellOf h2 (a1.add 5) = some (.int .i64 m.extra) := by rw [← hx.extra]; exact hb2.cell rfl
  have hdl := hz.dr
  have hol := hz.ob
  have hlen := EltL.len hx.objs
  have hdlen := hx.drives.len
  refine ⟨_, rfl, br_not (fun b => no H2 fun hh => by have := ((mayM_iff m).1 hh).1.2.2.1; rw [b] at this; cases this) fun b3 => ?_⟩
  refine ⟨m.extra, c5, br_dec (fun e => no H2 fun hh => by have := ((mayM_iff m).1 hh).1; omega) fun e5 => ⟨m.extra, c5, br_dec (fun e => no H2 fun hh => by have := ((mayM_iff m).1 hh).1; omega) fun e6 => ?_⟩⟩
  refine ⟨x.2.2.2.2.2.2.2, hb2.cell rfl, br_dec (fun e => no H2 fun hh => by have := ((mayM_iff m).1 hh).2.2.1; omega) fun e12 => ?_⟩
  have h12 : m.objs.length ≤ 12 := by omega
  have hmp := (mayP_iff m.p).1 b3
  have hk : m.p.1 * m.p.2.2 ≤ 16 * 24 := Int.mul_le_mul (by omega) (by omega) (by omega) (by omega)
  have hk0 : 0 ≤ m.p.1 * m.p.2.2 := Int.mul_nonneg (by omega) (by omega)
  have hhead : (1 ≤ m.seq ∧ m.seq ≤ 2147483647) ∧ (0 ≤ m.next ∧ m.next ≤ 16777216) ∧ mayP m.p = true ∧ 0 ≤ m.extra ∧ m.extra ≤ 16 := ⟨by omega, by omega, b3, by omega, by omega⟩
  refine ⟨x.2.2.2.2.2.2.1, hb2.cell rfl, ?_⟩
  refine loop_inv (fun i : Nat => (i : Int)) (fun i h' => i ≤ m.drives.length ∧ (∀ j, j < i → riseAt m.drives 63 j = true) ∧ h' = h2) (fun i => m.drives.length - i) 0 rfl ⟨by omega, by omega, rfl⟩ ?_
  rintro i h3 ⟨hi, hall, rfl⟩
  refine br_dec (fun e => ?_) (fun e => ?_)
  · have hi' : i < m.drives.length := by
      have e' : (i : Int) < (x.2.2.2.2.2.2.1.len : Int) := e
      omega
    have bad : ¬ riseAt m.drives 63 i = true → Value.bool false = .bool (mayM m) ∧ Sp h h3 [] := fun hn => no H2 fun hh => hn (((mayM_iff m).1 hh).2.1 i hi')
    have next : riseAt m.drives 63 i = true → ∃ t' : Nat, IntKind.wrap .i64 ((i : Int) + 1) = (t' : Int) ∧ (t' ≤ m.drives.length ∧ (∀ j, j < t' → riseAt m.drives 63 j = true) ∧ h3 = h3) ∧ m.drives.length - t' < m.drives.length - i := fun hr =>
      ⟨i + 1, by rw [Go.Vc.wrap_small _ (by omega) (by omega)]; rfl, ⟨by omega, fun j hj => by
        by_cases hji : j = i
        · subst hji; exact hr
        · exact hall j (by omega), rfl⟩, by omega⟩
    rw [riseAt_iff] at bad next
    refine hx2.drives.get1 i rfl hi' (m.drives.getD i 0) (by rw [getD_lt hi']; rfl) ?_
    refine br_dec (fun e1 => bad (by omega)) fun e1 => br_dec (fun e2 => bad (by omega)) fun e2 => br_dec (fun e3 => ?_) fun e3 => next ⟨by omega, .inl (by omega)⟩
    rw [Go.Vc.wrap_small ((i : Int) - 1) (by omega) (by omega)]
    refine ⟨x.2.2.2.2.2.2.1, hb2.cell rfl, hx2.drives.get1 (i - 1) (by omega) (by omega) (m.drives.getD (i - 1) 0) (by rw [getD_lt (show i - 1 < m.drives.length by omega)]; rfl) ?_⟩
    exact br_dec (fun e4 => bad (by omega)) fun e4 => next ⟨by omega, .inr (by omega)⟩
  have hdr : ∀ i, i < m.drives.length → riseAt m.drives 63 i = true := fun j hj => hall j (by
    have e' : ¬ (i : Int) < (x.2.2.2.2.2.2.1.len : Int) := e
    omega)
  refine ⟨x.2.2.2.2.2.2.2, hb2.cell rfl, ?_⟩
  obtain ⟨ys, F0⟩ := EltL.fix hx.objs
  have hyl := F0.2.1
  refine loop_inv (fun i : Nat => (i : Int)) (fun i h' => i ≤ m.objs.length ∧ (∀ j, j < i → objAt m j = true) ∧ Sp h h' [BoxA a1 T_api_Manifest (manL x)]) (fun i => m.objs.length - i) 0 rfl ⟨by omega, by omega, H2⟩ ?_
  rintro i h3 ⟨hi, hall, H3⟩
  refine br_dec (fun e => ?_) (fun e => ?_)
  · have hi' : i < m.objs.length := by
      have e' : (i : Int) < (x.2.2.2.2.2.2.2.len : Int) := e
      omega
    obtain ⟨E, hE⟩ : ∃ E, E = m.objs[i] := ⟨_, rfl⟩
    have hz1 := hz.nm _ (List.getElem_mem hi')
    rw [← hE] at hz1
    have hat : entAt m.objs i = E := by rw [hE]; exact entAt_lt hi'
    have bad : ∀ {h' : Heap} {As : List HP}, Sp h h' As → (objAt m i = true → False) → Value.bool false = .bool (mayM m) ∧ Sp h h' [] := fun {h' As} H' hb => no H' fun hh => hb (((mayM_iff m).1 hh).2.2.2 i hi')
    have ent : objAt m i = true → _ := fun hh => (entryB_iff m E).1 (by rw [← hat]; exact ((objAt_iff m i).1 hh).1)
    have F3 := RdF.up F0 H3.pres
    refine F3.1.getk (g := entv) i rfl (by omega) (ys[i]'(by omega)) rfl ?_
    refine H3.alloc C_ok rfl fun a19 h4 H4 => ?_
    refine H4.storeAll C_ok 1 rfl rfl (entv (ys[i]'(by omega))) rfl rfl rfl rfl fun h5 H5 => ?_
    have H5 : Sp h h5 [BoxA a1 T_api_Manifest (manL x), BoxA a19 T_api_Entry (entv (ys[i]'(by omega)))] := H5
    have F5 := RdF.up F0 H5.pres
    obtain ⟨⟨y1, y2, y3⟩, y4⟩ := Fix.row F5 hi'
    rw [← hE] at y1 y2 y3 y4
    have hb5 := H5.box 1 rfl
    have n0 : cellOf h5 a19 = some (.string E.name) := by rw [← y1]; exact hb5.cell0 rfl
    refine join_cut (fun _ h' => (nameB E.name = true ∧ (0 ≤ E.object ∧ E.object ≤ m.next - 1) ∧ (0 ≤ E.length ∧ E.length ≤ m.p.1 * m.p.2.2 * 8) ∧ (E.tries.length : Int) = countP m.p E.length) ∧ (i = 0 ∨ nameLt (entAt m.objs (i - 1)).name E.name = true) ∧ Sp h h' [BoxA a1 T_api_Manifest (manL x), BoxA a19 T_api_Entry (entv (ys[i]'(by omega)))]) ?_ ?_
    · refine ⟨E.name, n0, (rname_spec E.name h5 (by omega)).mono ?_⟩
      rintro _ h5 ⟨rfl, rfl⟩
      have k0 : cellOf h5 a19 = some (.string E.name) := n0
      have k1 : cellOf h5 (a19.add 1) = some (.int .i64 E.object) := by rw [← y2]; exact hb5.cell rfl
      have k2 : cellOf h5 (a19.add 2) = some (.int .i64 E.length) := by rw [← y3]; exact hb5.cell rfl
      have k3 : cellOf h5 (a19.add 3) = some (.slice (ys[i]'(by omega)).2.2.2.ptr (ys[i]'(by omega)).2.2.2.len (ys[i]'(by omega)).2.2.2.cap) := hb5.cell rfl
      have hb50 := H5.box 0 rfl
      have m1 : cellOf h5 (a1.add 1) = some (.int .i64 m.next) := by rw [← hx.next]; exact hb50.cell rfl
      have m2 : cellOf h5 (a1.add 2) = some (.int .i64 m.p.1) := by rw [← hp1]; exact hb50.cell rfl
      have m4 : cellOf h5 ((a1.add 2).add 2) = some (.int .i64 m.p.2.2) := by rw [← hp3]; exact hb50.at2 2 2 rfl
      have m7 : cellOf h5 (a1.add 7) = some (.slice x.2.2.2.2.2.2.2.ptr x.2.2.2.2.2.2.2.len x.2.2.2.2.2.2.2.cap) := hb50.cell rfl
      have mp : cellsAt h5 (a1.add 2) 0 [.int .i64 m.p.1, .int .i64 m.p.2.1, .int .i64 m.p.2.2] := by rw [← hp1, ← hp2, ← hp3]; exact hb50.part3 2 rfl rfl rfl
      refine ⟨_, rfl, trivial, br_not (fun b => ⟨trivial, bad H5 fun hh => by have := (ent hh).1; rw [b] at this; cases this⟩) fun b1 => br_dec (fun e2 => ?_) fun e2 => ?_⟩
      · rw [Go.Vc.wrap_small ((i : Int) - 1) (by omega) (by omega)]
        have hat1 : entAt m.objs (i - 1) = m.objs[i - 1] := entAt_lt (by omega)
        obtain ⟨a24, ha, zz, hc, rfl⟩ := F5.1.getk (g := entv) (i := (i : Int) - 1) (i - 1) (by omega) (by omega) (ys[i - 1]'(by omega)) rfl (K := fun t => t = ys[i - 1]'(by omega)) rfl
        have q0 : cellOf h5 (a24.add (((i : Int) - 1).toNat * 4)) = some (.string m.objs[i - 1].name) := by
          rw [← (Fix.row F5 (show i - 1 < m.objs.length by omega)).1.1]; exact hc.1
        refine ⟨E.name, k0, x.2.2.2.2.2.2.2, m7, a24, ha, m.objs[i - 1].name, q0, ?_⟩
        rw [bytesLess_not]
        refine br_not (fun e3 => ⟨by repeat (first | exact trivial | refine ⟨by assumption, ?_⟩), bad H5 fun hh => ?_⟩) fun e3 => ?_
        · rcases ((objAt_iff m i).1 hh).2.1 with h0 | h0
          · omega
          · rw [hat, hat1] at h0; unfold nameLt at h0; rw [h0] at e3; cases e3
        have hlt : nameLt (entAt m.objs (i - 1)).name E.name = true := by rw [hat1]; exact e3
        refine ⟨E.object, k1, br_dec (fun e4 => ⟨by repeat (first | exact trivial | refine ⟨by assumption, ?_⟩), bad H5 fun hh => by have := (ent hh).2.1; omega⟩) fun e4 => ⟨E.object, k1, m.next, m1, br_dec (fun e5 => ⟨by repeat (first | exact trivial | refine ⟨by assumption, ?_⟩), bad H5 fun hh => by have := (ent hh).2.1; omega⟩) fun e5 => ?_⟩⟩
        refine ⟨E.length, k2, br_dec (fun e6 => ⟨by repeat (first | exact trivial | refine ⟨by assumption, ?_⟩), bad H5 fun hh => by have := (ent hh).2.2.1; omega⟩) fun e6 => ⟨E.length, k2, m.p.1, m2, m.p.2.2, m4, ?_⟩⟩
        rw [Go.Vc.wrap_small (m.p.1 * m.p.2.2) (by omega) (by omega), Go.Vc.wrap_small (m.p.1 * m.p.2.2 * 8) (by omega) (by omega)]
        refine br_dec (fun e7 => ⟨by repeat (first | exact trivial | refine ⟨by assumption, ?_⟩), bad H5 fun hh => by have := (ent hh).2.2.1; omega⟩) fun e7 => ?_
        refine ⟨(ys[i]'(by omega)).2.2.2, k3, m.p, mp, E.length, k2, (rcount_spec m.p E.length h5 (by omega)).mono ?_⟩
        rintro _ h6 ⟨rfl, R6⟩
        have H6 := H5.up R6.pres
        refine ⟨_, rfl, held_grow R6.pres (by repeat (first | exact trivial | refine ⟨by assumption, ?_⟩)), br_ne (fun e8 => bad H6 fun hh => ?_) fun e8 => ⟨⟨b1, by omega, by omega, ?_⟩, .inr hlt, H6⟩⟩
        · have := (ent hh).2.2.2.2; have := y4.len; omega
        · have := y4.len; omega
      · refine ⟨E.object, k1, br_dec (fun e4 => ⟨by repeat (first | exact trivial | refine ⟨by assumption, ?_⟩), bad H5 fun hh => by have := (ent hh).2.1; omega⟩) fun e4 => ⟨E.object, k1, m.next, m1, br_dec (fun e5 => ⟨by repeat (first | exact trivial | refine ⟨by assumption, ?_⟩), bad H5 fun hh => by have := (ent hh).2.1; omega⟩) fun e5 => ?_⟩⟩
        refine ⟨E.length, k2, br_dec (fun e6 => ⟨by repeat (first | exact trivial | refine ⟨by assumption, ?_⟩), bad H5 fun hh => by have := (ent hh).2.2.1; omega⟩) fun e6 => ⟨E.length, k2, m.p.1, m2, m.p.2.2, m4, ?_⟩⟩
        rw [Go.Vc.wrap_small (m.p.1 * m.p.2.2) (by omega) (by omega), Go.Vc.wrap_small (m.p.1 * m.p.2.2 * 8) (by omega) (by omega)]
        refine br_dec (fun e7 => ⟨by repeat (first | exact trivial | refine ⟨by assumption, ?_⟩), bad H5 fun hh => by have := (ent hh).2.2.1; omega⟩) fun e7 => ?_
        refine ⟨(ys[i]'(by omega)).2.2.2, k3, m.p, mp, E.length, k2, (rcount_spec m.p E.length h5 (by omega)).mono ?_⟩
        rintro _ h6 ⟨rfl, R6⟩
        have H6 := H5.up R6.pres
        refine ⟨_, rfl, held_grow R6.pres (by repeat (first | exact trivial | refine ⟨by assumption, ?_⟩)), br_ne (fun e8 => bad H6 fun hh => ?_) fun e8 => ⟨⟨b1, by omega, by omega, ?_⟩, .inl (by omega), H6⟩⟩
        · have := (ent hh).2.2.2.2; have := y4.len; omega
        · have := y4.len; omega
    · rintro _ h6 ⟨⟨b1, b2, b3', b4⟩, b5, H6⟩
      have F6 := RdF.up F0 H6.pres
      have y6 := (Fix.row F6 hi').2
      rw [← hE] at y6
      have hb6 := H6.box 1 rfl
      have htl := y4.len
      refine ⟨(ys[i]'(by omega)).2.2.2, hb6.cell rfl, ?_⟩
      refine loop_inv (fun j : Nat => (j : Int)) (fun j h' => j ≤ E.tries.length ∧ (∀ t ∈ E.tries.take j, 0 ≤ t ∧ t ≤ 15) ∧ h' = h6) (fun j => E.tries.length - j) 0 rfl ⟨by omega, by simp, rfl⟩ ?_
      rintro j h7 ⟨hj, htr, rfl⟩
      refine br_dec (fun e1 => ?_) (fun e1 => ?_)
      · have hj' : j < E.tries.length := by
          have e' : (j : Int) < ((ys[i]'(by omega)).2.2.2.len : Int) := e1
          omega
        refine Seq.get1 (f := intv) y6 j rfl hj' E.tries[j] rfl ?_
        have hmem := List.getElem_mem hj'
        refine br_dec (fun e2 => bad H6 fun hh => by have := (ent hh).2.2.2.1 _ hmem; omega) fun e2 => br_dec (fun e3 => bad H6 fun hh => by have := (ent hh).2.2.2.1 _ hmem; omega) fun e3 => ?_
        refine ⟨j + 1, by rw [Go.Vc.wrap_small _ (by omega) (by omega)]; rfl, ⟨by omega, fun t ht => ?_, rfl⟩, by omega⟩
        rw [take_snoc _ _ hj'] at ht
        rcases List.mem_append.1 ht with ht | ht
        · exact htr t ht
        · rw [List.mem_singleton.1 ht]; omega
      · have e' : ¬ (j : Int) < ((ys[i]'(by omega)).2.2.2.len : Int) := e1
        rw [List.take_of_length_le (by omega)] at htr
        refine loop_inv (fun k : Nat => (k : Int)) (fun k h' => k ≤ i ∧ (∀ y ∈ m.objs.take k, y.object ≠ E.object) ∧ h' = h7) (fun k => i - k) 0 rfl ⟨by omega, by simp, rfl⟩ ?_
        rintro k h8 ⟨hk', hob, rfl⟩
        refine br_dec (fun e2 => ?_) (fun e2 => ?_)
        · have hk'' : k < i := by omega
          obtain ⟨a24, ha, zz, hc, rfl⟩ := F6.1.getk (g := entv) (i := (k : Int)) k rfl (by omega) (ys[k]'(by omega)) rfl (K := fun t => t = ys[k]'(by omega)) rfl
          have hko : k < m.objs.length := by omega
          refine ⟨x.2.2.2.2.2.2.2, (H6.box 0 rfl).cell rfl, a24, ha, m.objs[k].object, ?_, E.object, ?_, ?_⟩
          · rw [← (Fix.row F6 hko).1.2.1]; exact hc.2.1
          · rw [← y2]; exact hb6.cell rfl
          · refine br_eq (fun e3 => bad H6 fun hh => ?_) fun e3 => ?_
            · have := ((objAt_iff m i).1 hh).2.2 m.objs[k] (List.mem_take_iff_getElem.2 ⟨k, by omega, rfl⟩)
              rw [hat] at this; exact this e3
            · refine ⟨k + 1, by rw [Go.Vc.wrap_small _ (by omega) (by omega)]; rfl, ⟨by omega, fun y hy => ?_, rfl⟩, by omega⟩
              rw [take_snoc _ _ hko] at hy
              rcases List.mem_append.1 hy with hy | hy
              · exact hob y hy
              · rw [List.mem_singleton.1 hy]; exact e3
        · have hki : k = i := by omega
          subst hki
          refine ⟨k + 1, by rw [Go.Vc.wrap_small _ (by omega) (by omega)]; rfl, ⟨by omega, fun j' hj' => ?_, H6.sel [0]⟩, by omega⟩
          by_cases hjk : j' = k
          · subst hjk
            rw [objAt_iff, hat, entryB_iff]
            exact ⟨⟨b1, b2, b3', htr, b4⟩, b5, hob⟩
          · exact hall j' (by omega)
  · have e' : ¬ (i : Int) < (x.2.2.2.2.2.2.2.len : Int) := e
    have : mayM m = true := (mayM_iff m).2 ⟨hhead, hdr, h12, fun j hj => hall j (by omega)⟩
    exact ⟨by rw [this], .zip H3.pres⟩
end Go.Proofs.YtmaknfkhibljfaaGreat
namespace Go.Proofs.YtmaknfkhibljfaaGreat
open Go Go.Vc Go.Proofs Wl
set_option maxRecDepth 100000
theorem rpack_spec (x : ManV) (m : Mani) (h : Heap) (hx : RdM h x m) (hz : ManSz m) : Meets Tryz.prog wellspringref15_Pack_id #[manv x] h fun v h' => ∃ r : Sl, v = .slice r.ptr r.len r.cap ∧ Sp h h' [OwnA T_uint8 r 1 u8v (packM m)] := by
  refine wellspringref15_Pack_run x ?_
  unfold wellspringref15_Pack_m
  refine (Sp.refl h).boxed fun a1 h1 H1 => ?_
  refine ⟨x, (H1.box 0 rfl).cells0 _ rfl, (rmay_spec x m h1 (hx.up H1.pres) hz).mono ?_⟩
  rintro _ h2 ⟨rfl, R2⟩
  have H2 := H1.up R2.pres
  refine ⟨_, rfl, br_not (fun e => ?_) fun hm => ?_⟩
  · unfold packM; rw [e]; exact ⟨⟨none, 0, 0⟩, rfl, ((H2.nil T_uint8 1 u8v).sel [1])⟩
  have hp1 : x.2.2.1 = m.p.1 := congrArg (·.1) hx.p
  have hp2 : x.2.2.2.1 = m.p.2.1 := congrArg (·.2.1) hx.p
  have hp3 : x.2.2.2.2.1 = m.p.2.2 := congrArg (·.2.2) hx.p
  have hb2 := H2.box 0 rfl
  have hplen := pack_len m hz
  unfold packM at hplen
  rw [hm, if_pos rfl] at hplen
  have hM : ∀ {h' : Heap} {As : List HP}, Sp h h' As → RdM h' x m := fun {h' As} H' => hx.up H'.pres
  refine join_in ⟨m.seq, by rw [← hx.seq]; exact hb2.cell0 rfl, m.next, by rw [← hx.next]; exact hb2.cell rfl, ?_⟩
  have H3 := (H2.nil T_uint8 1 u8v).front1
  refine (rhigh_spec ⟨none, 0, 0⟩ [] m.seq 4 (by decide) (by simp) H3).mono ?_
  rintro _ h4 ⟨s4, rfl, H4⟩
  refine ⟨s4, rfl, ⟨by rw [← hx.next]; exact (H4.box 1 rfl).cell rfl, trivial⟩, ?_⟩
  refine (rhigh_spec s4 _ m.next 4 (by decide) (by simp [highB_len]) H4).mono ?_
  rintro _ h5 ⟨s5, rfl, H5⟩
  refine ⟨s5, rfl, trivial, ?_⟩
  have hb5 := H5.box 1 rfl
  refine ⟨m.p.1, by rw [← hp1]; exact hb5.cell rfl, m.p.2.1, by rw [← hp2]; exact hb5.at2 2 1 rfl, m.p.2.2, by rw [← hp3]; exact hb5.at2 2 2 rfl, m.extra, by rw [← hx.extra]; exact hb5.cell rfl, x.2.2.2.2.2.2.1, hb5.cell rfl, ?_⟩
  have hdl := hx.drives.len
  have hol := EltL.len hx.objs
  rw [b8_wrap, b8_wrap, b8_wrap, b8_wrap, b8_wrap, hdl]
  refine H5.lit C_ok u8v eU8 rfl [b8 m.p.1, b8 m.p.2.1, b8 m.p.2.2, b8 m.extra, b8 (m.drives.length : Nat)] rfl (show 5 * 1 ≤ 2 ^ 20 by decide) rfl fun v14 h6 H6 => ?_
  refine H6.append C_ok 0 rfl eU8 ⟨_, _, rfl, rfl⟩ rfl (by decide) (fun _ => rfl) (H6.seq 2 rfl fun _ => rfl) one_u8 (by simp [highB_len]) fun s7 h7 H7 => ?_
  have H7 := H7.sel [0, 1]
  refine ⟨x.2.2.2.2.2.2.1, (H7.box 1 rfl).cell rfl, ?_⟩
  have hacc : (([] ++ highB m.seq 4) ++ highB m.next 4 ++ [b8 m.p.1, b8 m.p.2.1, b8 m.p.2.2, b8 m.extra, b8 (m.drives.length : Nat)]).length = 13 := by simp [highB_len]
  have hdr := hz.dr
  refine bytes_loop x.2.2.2.2.2.2.1 m.drives s7 _ H7 (St.mk' fun h' H' => (hM H').drives) (by omega) (by omega) fun s8 h8 H8 => ?_
  dsimp only
  refine ⟨x.2.2.2.2.2.2.2, (H8.box 1 rfl).cell rfl, ?_⟩
  rw [b8_wrap, hol]
  obtain ⟨acc, hacc2⟩ : ∃ acc, acc = ([] ++ highB m.seq 4) ++ highB m.next 4 ++ [b8 m.p.1, b8 m.p.2.1, b8 m.p.2.2, b8 m.extra, b8 (m.drives.length : Nat)] ++ m.drives.map b8 := ⟨_, rfl⟩
  rw [← hacc2] at H8
  have hal : acc.length = 13 + m.drives.length := by rw [hacc2]; simp [highB_len]; omega
  simp only [List.length_append, List.length_cons, List.length_nil, List.length_map, highB_len] at hplen
  refine H8.push C_ok 0 rfl eU8 rfl (by decide) (fun _ => rfl) one_u8 (b8 (m.objs.length : Nat)) rfl (by decide) (by omega) fun s9 h9 H9 => ?_
  have H9 : Sp h h9 [OwnA T_uint8 s9 1 u8v (acc ++ [b8 (m.objs.length : Nat)]), BoxA a1 T_api_Manifest (manL x)] := H9
  refine ⟨x.2.2.2.2.2.2.2, (H9.box 1 rfl).cell rfl, ?_⟩
  obtain ⟨ys, F0⟩ := EltL.fix hx.objs
  have hyl := F0.2.1
  refine loop_inv (fun t : Sl × Nat => (t.1, (t.2 : Int))) (fun t h' => t.2 ≤ m.objs.length ∧ Sp h h' [OwnA T_uint8 t.1 1 u8v (acc ++ [b8 (m.objs.length : Nat)] ++ (m.objs.take t.2).flatMap packE), BoxA a1 T_api_Manifest (manL x)]) (fun t => m.objs.length - t.2) (s9, 0) rfl ⟨by simp, by simpa using H9⟩ ?_
  rintro ⟨o, i⟩ h10 ⟨hi, H10⟩
  dsimp only at *
  refine br_dec (fun e => ?_) (fun e => ?_)
  · have hi' : i < m.objs.length := by omega
    have F10 := RdF.up F0 H10.pres
    have hes := ent_sz hm hi'
    have hsofar : ((m.objs.take i).flatMap packE).length ≤ 50000 := by
      have h1 := packs_len hm i hi
      have := objs_len hm
      have : i * 4000 ≤ 12 * 4000 := Nat.mul_le_mul_right _ (by omega)
      omega
    refine F10.1.getk (g := entv) i rfl (by omega) (ys[i]'(by omega)) rfl ?_
    refine H10.alloc C_ok rfl fun a29 h11 H11 => ?_
    refine H11.storeAll C_ok 2 rfl rfl (entv (ys[i]'(by omega))) rfl rfl rfl rfl fun h12 H12 => ?_
    have F12 := RdF.up F0 H12.pres
    obtain ⟨⟨y1, y2, y3⟩, y4⟩ := Fix.row F12 hi'
    obtain ⟨E, hE⟩ : ∃ E, E = m.objs[i] := ⟨_, rfl⟩
    rw [← hE] at y1 y2 y3 y4 hes
    have b12 := H12.box 2 rfl
    refine join_in ⟨E.name, by rw [← y1]; exact b12.cell0 rfl, E.name, by rw [← y1]; exact b12.cell0 rfl, ?_⟩
    rw [b8_wrap]
    refine H12.litHeld C_ok u8v eU8 rfl [b8 (E.name.size : Nat)] rfl (show 1 * 1 ≤ 2 ^ 20 by decide) rfl ⟨by rw [← y1]; exact b12.cell0 rfl, by rw [← y1]; exact b12.cell0 rfl, trivial⟩ ?_
    have hcur : (acc ++ [b8 (m.objs.length : Nat)] ++ (m.objs.take i).flatMap packE).length ≤ 160000 := by rw [List.length_append, List.length_append, hal]; simp; simp at hsofar; omega
    obtain ⟨cur, hcr⟩ : ∃ cur, cur = acc ++ [b8 (m.objs.length : Nat)] ++ (m.objs.take i).flatMap packE := ⟨_, rfl⟩
    rw [← hcr] at H12 hcur
    refine H12.push C_ok 0 rfl eU8 rfl (by decide) (fun _ => rfl) one_u8 (b8 (E.name.size : Nat)) rfl (by decide) (by omega) fun s13 h13 H13 => ?_
    have b13 := H13.box 2 rfl
    refine ⟨⟨by rw [← y1]; exact b13.cell0 rfl, by rw [← y1]; exact b13.cell0 rfl, trivial⟩, ?_⟩
    refine H13.appendStr C_ok 0 rfl eU8 ⟨_, rfl, rfl⟩ rfl (by decide) E.name (by simp; omega) fun s14 h14 H14 => ?_
    have b14 := H14.box 2 rfl
    refine ⟨⟨by rw [← y1]; exact b14.cell0 rfl, trivial⟩, ?_⟩
    have H14 : Sp h h14 [OwnA T_uint8 s14 1 u8v (cur ++ [b8 (E.name.size : Nat)] ++ strB E.name), BoxA a1 T_api_Manifest (manL x), BoxA a29 T_api_Entry (entv (ys[i]'(by omega)))] := H14
    refine join_in ⟨E.object, by rw [← y2]; exact b14.cell rfl, E.length, by rw [← y3]; exact b14.cell rfl, ?_⟩
    have hsb := strB_len E.name
    refine (rhigh_spec s14 _ E.object 3 (by decide) (by simp; omega) H14).mono ?_
    rintro _ h15 ⟨s15, rfl, H15⟩
    have b15 := H15.box 2 rfl
    refine ⟨s15, rfl, ⟨by rw [← y3]; exact b15.cell rfl, trivial⟩, ?_⟩
    refine (rhigh_spec s15 _ E.length 2 (by decide) (by simp [highB_len]; omega) H15).mono ?_
    rintro _ h16 ⟨s16, rfl, H16⟩
    have b16 := H16.box 2 rfl
    refine ⟨s16, rfl, trivial, (ys[i]'(by omega)).2.2.2, b16.cell rfl, ?_⟩
    refine bytes_loop (ys[i]'(by omega)).2.2.2 E.tries s16 _ H16 (St.mk' fun h' H' => by rw [hE]; exact (Fix.row (RdF.up F0 H'.pres) hi').2) (by simp [highB_len]; omega) (by omega) fun s17 h17 H17 => ?_
    dsimp only
    have h12 := objs_len hm
    refine ⟨(s17, i + 1), by dsimp only; rw [Go.Vc.wrap_small _ (by omega) (by omega)]; rfl, ⟨by dsimp only; omega, ?_⟩, by dsimp only; omega⟩
    dsimp only
    rw [take_snoc _ _ hi', List.flatMap_append, ← List.append_assoc, ← hcr, List.flatMap_cons, List.flatMap_nil, List.append_nil, ← hE]
    have e3 : cur ++ [b8 (E.name.size : Nat)] ++ strB E.name ++ highB E.object 3 ++ highB E.length 2 ++ E.tries.map b8 = cur ++ packE E := by
      unfold packE strB; simp [List.append_assoc]
    rw [e3] at H17
    exact H17.sel [0, 1]
  · rw [List.take_of_length_le (by omega)] at H10
    refine ⟨o, rfl, ?_⟩
    have e2 : acc ++ [b8 (m.objs.length : Nat)] ++ m.objs.flatMap packE = packM m := by
      rw [hacc2]; unfold packM; rw [hm, if_pos rfl]; simp [List.append_assoc]
    rw [e2] at H10
    exact H10.sel [0]
theorem rsplit_spec (x : ManV) (m : Mani) (h : Heap) (hx : RdM h x m) (hz : ManSz m) : Meets Tryz.prog wellspringref15_Split_id #[manv x] h fun v h' => ∃ r : Sl, v = .slice r.ptr r.len r.cap ∧ Sp h h' [RowsD r (splitM m)] := by
  refine wellspringref15_Split_run x ?_
  unfold wellspringref15_Split_m
  refine (Sp.refl h).boxed fun a1 h1 H1 => ?_
  refine ⟨x, (H1.box 0 rfl).cells0 _ rfl, (rpack_spec x m h1 (hx.up H1.pres) hz).mono ?_⟩
  rintro _ h2 ⟨b, rfl, R2⟩
  have H2 := H1.comp R2
  have hpl := pack_len m hz
  obtain ⟨l, hl⟩ : ∃ l, l = packM m := ⟨_, rfl⟩
  rw [← hl] at H2 hpl
  have hbl := (H2.own 1 rfl).len
  have hbc := (H2.own 1 rfl).cap
  refine ⟨b, rfl, by decide, ?_⟩
  have hmany : IntKind.wrap .i64 (Int.tdiv (IntKind.wrap .i64 ((IntKind.wrap .i64 (((b.len : Nat) : Int) + (48 : Int))) - (1 : Int))) (48 : Int)) = (manyP l : Int) := by
    rw [Go.Vc.wrap_small ((b.len : Int) + 48) (by omega) (by omega), Go.Vc.wrap_small ((b.len : Int) + 48 - 1) (by omega) (by omega), Int.tdiv_eq_ediv_of_nonneg (by omega)]
    unfold manyP
    rw [Go.Vc.wrap_small (((b.len : Int) + 48 - 1) / 48) (by omega) (by omega)]
    omega
  have hmn : manyP l ≤ 3000 := by unfold manyP; omega
  rw [hmany]
  obtain ⟨pg, hpg⟩ : ∃ pg : List (List UInt8), pg = splitM m := ⟨_, rfl⟩
  have hpgl : pg.length = manyP l := by rw [hpg, hl]; simp [splitM]
  have H3 : Sp h h2 [RowsD ⟨none, 0, 0⟩ (pg.take 0), BoxA a1 T_api_Manifest (manL x), OwnA T_uint8 b 1 u8v l] := H2.wNil T_sl_uint8 T_uint8 1 u8v
  refine loop_inv (fun t : Sl × Nat => (t.1, (t.2 : Int))) (fun t h' => t.2 ≤ manyP l ∧ Sp h h' [RowsD t.1 (pg.take t.2), BoxA a1 T_api_Manifest (manL x), OwnA T_uint8 b 1 u8v l]) (fun t => manyP l - t.2) (⟨none, 0, 0⟩, 0) rfl ⟨by simp, H3⟩ ?_
  rintro ⟨o, i⟩ h3 ⟨hi, H3⟩
  dsimp only at *
  refine br_dec (fun e => ?_) (fun e => ?_)
  · have hi' : i < manyP l := by omega
    have hi48 : 48 * i < l.length := by unfold manyP at hi'; omega
    rw [Go.Vc.wrap_small ((i : Int) * 48) (by omega) (by omega), Go.Vc.wrap_small ((i : Int) + 1) (by omega) (by omega), Go.Vc.wrap_small (((i : Int) + 1) * 48) (by omega) (by omega)]
    obtain ⟨en, hen⟩ : ∃ en : Nat, en = min (48 * i + 48) l.length := ⟨_, rfl⟩
    have hif : (if ((b.len : Nat) : Int) < ((i : Int) + 1) * 48 then ((b.len : Nat) : Int) else ((i : Int) + 1) * 48) = (en : Int) := by
      split <;> omega
    rw [hif]
    refine ⟨⟨by omega, by omega, by omega⟩, m.seq, by rw [← hx.seq]; exact (H3.box 1 rfl).cell0 rfl, ?_⟩
    have e1 : ((i : Int) * 48).toNat = 48 * i := by omega
    rw [e1, Int.toNat_natCast]
    have hd := ((H3.seq 2 rfl fun _ => rfl).drop (48 * i) hbc).take (en - 48 * i) (by rw [List.length_drop]; omega)
    have e2 : (l.drop (48 * i)).take (en - 48 * i) = (l.drop (48 * i)).take 48 := by
      by_cases hh : 48 * i + 48 ≤ l.length
      · rw [show en - 48 * i = 48 by omega]
      · rw [List.take_of_length_le (by rw [List.length_drop]; omega), List.take_of_length_le (by rw [List.length_drop]; omega)]
    rw [e2, Nat.mul_one] at hd
    rw [Nat.mul_one]
    refine (rhigh_spec ⟨none, 0, 0⟩ [] m.seq 4 (by decide) (by simp) (H3.nil T_uint8 1 u8v).front1).mono ?_
    rintro _ h4 ⟨r6, rfl, H4⟩
    refine ⟨r6, rfl, ?_⟩
    rw [b8_wrap, b8_wrap, b8_wrap]
    refine H4.lit C_ok u8v eU8 rfl [b8 (i : Int), b8 (manyP l : Int), b8 ((en - 48 * i : Nat) : Int)] rfl (show 3 * 1 ≤ 2 ^ 20 by decide) rfl fun v7 h5 H5 => ?_
    refine H5.append C_ok 0 rfl eU8 ⟨_, _, rfl, rfl⟩ rfl (by decide) (fun _ => rfl) (H5.seq 4 rfl fun _ => rfl) one_u8 (by simp [highB_len]) fun s8 h6 H6 => ?_
    have H6 : Sp h h6 [OwnA T_uint8 s8 1 u8v ([] ++ highB m.seq 4 ++ [b8 (i : Int), b8 (manyP l : Int), b8 ((en - 48 * i : Nat) : Int)]), RowsD o (pg.take i), BoxA a1 T_api_Manifest (manL x), OwnA T_uint8 b 1 u8v l] := H6.sel [0, 1, 2, 3]
    have hd6 := ((H6.seq 3 rfl fun _ => rfl).drop (48 * i) hbc).take (en - 48 * i) (by rw [List.length_drop]; omega)
    rw [e2, Nat.mul_one] at hd6
    have hdl : ((l.drop (48 * i)).take 48).length = en - 48 * i := by simp; omega
    refine H6.append C_ok 0 rfl eU8 ⟨_, _, rfl, rfl⟩ rfl (by decide) (fun _ => rfl) hd6 one_u8 (by simp [highB_len]; omega) fun s9 h7 H7 => ?_
    have H7 : Sp h h7 [OwnA T_uint8 s9 1 u8v ([] ++ highB m.seq 4 ++ [b8 (i : Int), b8 (manyP l : Int), b8 ((en - 48 * i : Nat) : Int)] ++ (l.drop (48 * i)).take 48), RowsD o (pg.take i), BoxA a1 T_api_Manifest (manL x), OwnA T_uint8 b 1 u8v l] := H7
    refine (rput_spec 2 s9 _ h7 (H7.seq 0 rfl fun _ => rfl) (by simp [highB_len]; omega)).mono ?_
    rintro _ h8 ⟨r, rfl, R8⟩
    have ep : putCell 2 ([] ++ highB m.seq 4 ++ [b8 (i : Int), b8 (manyP l : Int), b8 ((en - 48 * i : Nat) : Int)] ++ (l.drop (48 * i)).take 48) = putPage m.seq i (manyP l) ((l.drop (48 * i)).take 48) := by
      unfold putPage; rw [hdl]; simp
    rw [ep] at R8
    have H4 := ((H7.drop1).comp1 R8).selT 4 [1, 0, 2, 3]
    refine ⟨r, rfl, ?_⟩
    refine H4.wPush C_ok eSlU8 (by simp; omega) fun o' h5 H5 => ?_
    refine ⟨(o', i + 1), rfl, ⟨by dsimp only; omega, ?_⟩, by dsimp only; omega⟩
    dsimp only
    rw [take_snoc _ _ (show i < pg.length by omega)]
    have e3 : pg[i]'(by omega) = putPage m.seq i (manyP l) ((l.drop (48 * i)).take 48) := by
      subst hpg; subst hl; simp [splitM]
    rw [e3]
    exact H5
  · rw [List.take_of_length_le (by omega), hpg] at H3
    exact ⟨o, rfl, H3.sel [0]⟩
end Go.Proofs.YtmaknfkhibljfaaGreat
namespace Wl
open Go
def Has (ds : Drvs) (S : List Int) : Prop := ds.length = 64 ∧ ∀ s ∈ S, ∃ d, dAt ds s = some d
theorem Has.set {ds : Drvs} {S : List Int} {n : Nat} {d : Drv} (F : Has ds S) (hn : n < 64) : Has (dSet ds (n : Int) d) S := by
  refine ⟨by unfold dSet; rw [List.length_set]; exact F.1, fun s hs => ?_⟩
  rw [dAt_set _ _ _ _ hn F.1]
  by_cases h : s = (n : Int)
  · rw [if_pos h]; exact ⟨_, rfl⟩
  · rw [if_neg h]; exact F.2 s hs
theorem Has.append {ds : Drvs} {S : List Int} (F : Has ds S) (w : Pow) (x : Int) (b : List UInt8) : Has (appendAt w ds x b).2.2 S := by
  unfold appendAt
  cases hd : dAt ds x with
  | none => exact F
  | some d =>
    obtain ⟨n, rfl, hn⟩ := dAt_range hd
    exact F.set hn
theorem Has.sync {ds : Drvs} {S : List Int} (F : Has ds S) (w : Pow) (x : Int) : Has (syncAt w ds x).2.2 S := by
  unfold syncAt
  cases hd : dAt ds x with
  | none => exact F
  | some d =>
    obtain ⟨n, rfl, hn⟩ := dAt_range hd
    exact F.set hn
def slotsFrom (l : List Int) (i : Nat) : List Int := (((List.range 64).drop i).map fun i : Nat => (i : Int)).filter fun i => decide (i ∈ l)
theorem slotsFrom_end (l : List Int) : slotsFrom l 64 = [] := by unfold slotsFrom; rw [List.drop_of_length_le (by simp)]; rfl
theorem slotsFrom_step (l : List Int) (i : Nat) (hi : i < 64) : slotsFrom l i = if (i : Int) ∈ l then (i : Int) :: slotsFrom l (i + 1) else slotsFrom l (i + 1) := by
  unfold slotsFrom
  rw [List.drop_eq_getElem_cons (by simpa using hi), List.getElem_range, List.map_cons, List.filter_cons]
  by_cases h : (i : Int) ∈ l
  · rw [if_pos (by simpa using h), if_pos h]
  · rw [if_neg (by simpa using h), if_neg h]
end Wl
namespace Go.Vc
open Go Wl
def gotC (l : List Int) : List Value := (List.range 64).map fun i : Nat => .bool (decide ((i : Int) ∈ l))
theorem gotC_len (l : List Int) : (gotC l).length = 64 := by simp [gotC]
theorem gotC_get (l : List Int) (n : Nat) (hn : n < 64) : (gotC l)[n]? = some (.bool (decide ((n : Int) ∈ l))) := by
  unfold gotC; rw [List.getElem?_map, List.getElem?_range hn]; rfl
theorem gotC_set (l : List Int) (n : Nat) (hn : n < 64) : (gotC l).set n (.bool true) = gotC (l ++ [(n : Int)]) := by
  apply List.ext_getElem?
  intro j
  rw [List.getElem?_set, gotC_len]
  by_cases hj : j < 64
  · rw [gotC_get _ _ hj, gotC_get _ _ hj]
    by_cases h : n = j
    · subst h; rw [if_pos rfl, if_pos hn]; simp
    · rw [if_neg h]
      have : (j : Int) ∈ l ++ [(n : Int)] ↔ (j : Int) ∈ l := by
        rw [List.mem_append, List.mem_singleton]
        exact ⟨fun h' => h'.elim id fun h'' => absurd h'' (by omega), .inl⟩
      simp only [this]
  · rw [if_neg (by omega), List.getElem?_eq_none (by rw [gotC_len]; omega), List.getElem?_eq_none (by rw [gotC_len]; omega)]
def PoolI (T : List ((Int × Sl) × (Int × List UInt8))) : HP := ⟨fun h q => ∀ t ∈ T, EltP.p h q t.1 t.2, fun a hp t ht => EltP.loc (a t ht) hp, fun a hq t ht => EltP.mono (a t ht) hq⟩
end Go.Vc
namespace Go.Proofs.YtmaknfkhibljfaaGreat
open Go Go.Vc Go.Proofs Wl
set_option maxRecDepth 100000
abbrev kitR : Go.Vc.Kit := ⟨T_wellspringref29_Store, T_wellspringref21_Power, T_wellspringref21_Drive, fun pw => rdrvC pw⟩
abbrev eItem : ElemOk C.toCfg T_sl_wellspringref29_Item T_wellspringref29_Item 2 [.int .i64 0, .slice none 0 0] 32 := ⟨_, _, rfl, rfl, rfl, rfl, rfl, rfl⟩
section
variable {B : Blocks} {h0 h h' : Heap} {As : List HP} {a pw : Addr} {mc : List Value} {offs : Int} {da : List (Option Addr)} {w : Pow} {ds : Drvs}
theorem SpB.rcoreBox (H : SpB B h0 h (CoreA kitR a pw mc offs da w ds :: As)) : CoreOk mc da ds ∧ Box h a T_wellspringref29_Store (storC mc pw offs da) := by
  obtain ⟨ok, H1⟩ := Go.Vc.SpB.coreOpen H
  exact ⟨ok, H1.box 0 rfl⟩
theorem rptr {h : Heap} (ok : CoreOk mc da ds) (hb : Box h a T_wellspringref29_Store (storC mc pw offs da)) (n : Nat) (hn : n < 64) : ∃ x : Option Addr, cellOf h ((a.add 10).add (n * 1)) = some (.pointer x) ∧ da[n]? = some x := by
  have hna : n < da.length := by rw [ok.la]; exact hn
  refine ⟨da[n], ?_, List.getElem?_eq_getElem hna⟩
  rw [Nat.mul_one]
  refine hb.at2 10 n ?_
  rw [storC_get ok.l8, List.getElem?_eq_getElem hna]; rfl
theorem rlay_spec (s : Sl) (ys : List (Int × Sl)) (P : List (Int × List UInt8)) (hS : St B h0 As fun h => RdF EltP 2 piv h s ys P) (hl : P.length ≤ 2 ^ 30) (hin : ∀ x ∈ P, x.2.length ≤ 2 ^ 20) (hh : Has ds (P.map Prod.fst)) (H : SpB B h0 h (CoreA kitR a pw mc offs da w ds :: As)) :
    Meets Tryz.prog wellspringref29_Store_lay_id #[.pointer (some a), .slice s.ptr s.len s.cap] h fun v h' => v = .int .i64 (layAll P w ds).1 ∧ SpB B h0 h' (CoreA kitR a pw mc offs da (layAll P w ds).2.1 (layAll P w ds).2.2 :: As) := by
  refine wellspringref29_Store_lay_run (some a) s ?_
  unfold wellspringref29_Store_lay_m
  have hsl := (hS.at [_] H).1.len
  have hyl := (hS.at [_] H).2.1
  refine H.alloc C_ok rfl fun g h1 H1 => ?_
  have H1 : SpB B h0 h1 (BoxA g T_64_bool (gotC []) :: CoreA kitR a pw mc offs da w ds :: As) := H1.front1
  refine loop_inv (fun t : Nat × Pow × Drvs => (t.1 : Int)) (fun t h' => t.1 ≤ P.length ∧ Has t.2.2 (P.map Prod.fst) ∧ appends P w ds = appends (P.drop t.1) t.2.1 t.2.2 ∧ SpB B h0 h' (BoxA g T_64_bool (gotC ((P.take t.1).map Prod.fst)) :: CoreA kitR a pw mc offs da t.2.1 t.2.2 :: As)) (fun t => P.length - t.1) (0, w, ds) rfl ⟨by simp, hh, rfl, by simpa using H1⟩ ?_
  rintro ⟨i, w1, ds1⟩ h1 ⟨hi, hh1, hap, H1⟩
  dsimp only at *
  refine br_dec (fun e => ?_) (fun e => ?_)
  · have hi' : i < P.length := by omega
    rw [List.drop_eq_getElem_cons hi', appends_cons] at hap
    have F1 := hS.at [_, _] H1
    have hPi := hin _ (List.getElem_mem hi')
    refine F1.1.getk (g := piv) i rfl (by omega) (ys[i]'(by omega)) rfl ?_
    refine H1.alloc C_ok rfl fun a4 h2 H2 => ?_
    have H2 := H2.front1
    refine H2.storeAll C_ok 0 rfl rfl (piv (ys[i]'(by omega))) rfl rfl rfl rfl fun h3 H3 => ?_
    obtain ⟨y1, y2⟩ := Fix.row (hS.at [_, _, _] H3) hi'
    have H3 : SpB B h0 h3 (BoxA a4 T_wellspringref29_Item (piv (ys[i]'(by omega))) :: BoxA g T_64_bool (gotC ((P.take i).map Prod.fst)) :: CoreA kitR a pw mc offs da w1 ds1 :: As) := H3
    have H3 := H3.selT 3 [2, 0, 1]
    obtain ⟨ok, hb⟩ := SpB.rcoreBox H3
    obtain ⟨res, hres⟩ : ∃ res, res = appendAt w1 ds1 P[i].1 P[i].2 := ⟨_, rfl⟩
    rw [← hres] at hap
    obtain ⟨d0, hd0⟩ := hh1.2 P[i].1 (List.mem_map.2 ⟨_, List.getElem_mem hi', rfl⟩)
    rcases at_cases ok P[i].1 with ⟨c1, c2⟩ | ⟨n, d, b, c0, c1, c2, c3, c4, c5⟩
    · rw [c1] at hd0; cases hd0
    obtain ⟨x8, hx8, hx8'⟩ := rptr ok hb n c1
    rw [c4] at hx8'
    injection hx8' with hx8'
    subst hx8'
    refine ⟨(n : Int), by rw [← c0, ← y1]; exact (H3.box 1 rfl).cell0 rfl, a, rfl, ⟨by omega, by omega⟩, some b, by rw [Int.toNat_natCast]; exact hx8, (ys[i]'(by omega)).2, (H3.box 1 rfl).cell rfl, ?_⟩
    obtain ⟨b', hb', H5⟩ := Go.Vc.SpB.coreDrive H3 c2
    rw [c4] at hb'
    injection hb' with hb'
    injection hb' with hb'
    subst hb'
    have hy2 : St B h0 (HoleA kitR a pw mc offs da ds1 n :: BoxA a4 T_wellspringref29_Item (piv (ys[i]'(by omega))) :: BoxA g T_64_bool (gotC ((P.take i).map Prod.fst)) :: As) fun h => Rd h (ys[i]'(by omega)).2 1 u8v P[i].2 :=
      ((hS.mono fun h hF => (Fix.row hF hi').2).cons).cons.cons
    refine (rappend_spec (ys[i]'(by omega)).2 P[i].2 H5 hy2 hPi).mono ?_
    rintro _ h6 ⟨rfl, H6⟩
    have H7 := Go.Vc.SpB.coreBack (k := kitR) (n := n) c4 H6
    have es : res = ((d.append w1 P[i].2).1, (d.append w1 P[i].2).2.1, ds1.set n (some (d.append w1 P[i].2).2.2)) := by
      rw [hres]; unfold appendAt; rw [c3]; simp only [dSet, c0, Int.toNat_natCast]
    have H7 : SpB B h0 h6 (CoreA kitR a pw mc offs da res.2.1 res.2.2 :: BoxA a4 T_wellspringref29_Item (piv (ys[i]'(by omega))) :: BoxA g T_64_bool (gotC ((P.take i).map Prod.fst)) :: As) := by rw [es]; exact H7
    have hres1 : (d.append w1 P[i].2).1 = res.1 := by rw [es]
    rw [hres1]
    have hb7 := H7.box 1 rfl
    refine ⟨_, rfl, ⟨by rw [← c0, ← y1]; exact hb7.cell0 rfl, trivial⟩, br_ne (fun e2 => ?_) fun e2 => ?_⟩
    · rw [if_neg e2] at hap
      have : layAll P w ds = res := by unfold layAll; rw [hap]; exact if_neg e2
      rw [this]
      exact ⟨rfl, H7.drop2.drop2⟩
    · rw [if_pos e2] at hap
      refine ⟨(n : Int), by rw [← c0, ← y1]; exact hb7.cell0 rfl, ⟨by omega, by omega⟩, ?_⟩
      rw [Int.toNat_natCast, Nat.mul_one]
      refine H7.storeAt C_ok 2 rfl rfl rfl rfl rfl (by rw [gotC_len]; exact c1) fun h8 H8 => ?_
      have H8 : SpB B h0 h8 (CoreA kitR a pw mc offs da res.2.1 res.2.2 :: BoxA a4 T_wellspringref29_Item (piv (ys[i]'(by omega))) :: BoxA g T_64_bool ((gotC ((P.take i).map Prod.fst)).set n (.bool true)) :: As) := H8
      rw [gotC_set _ _ c1] at H8
      refine ⟨(i + 1, res.2.1, res.2.2), by dsimp only; rw [Go.Vc.wrap_small _ (by omega) (by omega)]; rfl, ⟨by dsimp only; omega, by rw [hres]; exact hh1.append _ _ _, hap, ?_⟩, by dsimp only; omega⟩
      dsimp only
      rw [take_snoc _ _ hi', List.map_append, List.map_cons, List.map_nil, c0]
      exact H8.selT 3 [2, 0]
  · have hie : i = P.length := by omega
    subst hie
    rw [List.drop_length] at hap
    rw [List.take_length] at H1
    have hla : layAll P w ds = syncs (slotsUp (P.map Prod.fst)) w1 ds1 := by unfold layAll; rw [hap]; rfl
    obtain ⟨L, hL⟩ : ∃ L, L = P.map Prod.fst := ⟨_, rfl⟩
    rw [← hL] at H1 hla hh1
    refine loop_inv (fun t : Nat × Pow × Drvs => (t.1 : Int)) (fun t h' => t.1 ≤ 64 ∧ Has t.2.2 L ∧ layAll P w ds = syncs (slotsFrom L t.1) t.2.1 t.2.2 ∧ SpB B h0 h' (BoxA g T_64_bool (gotC L) :: CoreA kitR a pw mc offs da t.2.1 t.2.2 :: As)) (fun t => 64 - t.1) (0, w1, ds1) rfl ⟨by simp, hh1, hla, H1⟩ ?_
    rintro ⟨i, w2, ds2⟩ h2 ⟨hi, hh2, hsy, H2⟩
    dsimp only at *
    refine br_dec (fun e => ?_) (fun e => ?_)
    · have hi' : i < 64 := by omega
      rw [slotsFrom_step _ _ hi'] at hsy
      refine ⟨⟨by omega, by omega⟩, decide ((i : Int) ∈ L), ?_, br_not (fun e2 => ?_) fun e2 => ?_⟩
      · rw [Int.toNat_natCast, Nat.mul_one]
        exact (H2.box 0 rfl).cell (gotC_get _ _ hi')
      · rw [if_neg (by simpa using e2)] at hsy
        exact ⟨(i + 1, w2, ds2), by dsimp only; rw [Go.Vc.wrap_small _ (by omega) (by omega)]; rfl, ⟨by dsimp only; omega, hh2, hsy, H2⟩, by dsimp only; omega⟩
      · have hm : (i : Int) ∈ L := by simpa using e2
        rw [if_pos hm, syncs_cons] at hsy
        have H3 := H2.selT 2 [1, 0]
        obtain ⟨ok, hb⟩ := SpB.rcoreBox H3
        obtain ⟨d0, hd0⟩ := hh2.2 _ hm
        rcases at_cases ok (i : Int) with ⟨c1, c2⟩ | ⟨n, d, b, c0, c1, c2, c3, c4, c5⟩
        · rw [c1] at hd0; cases hd0
        have c0 : i = n := by omega
        subst c0
        obtain ⟨x8, hx8, hx8'⟩ := rptr ok hb i c1
        rw [c4] at hx8'
        injection hx8' with hx8'
        subst hx8'
        refine ⟨a, rfl, ⟨by omega, by omega⟩, some b, by rw [Int.toNat_natCast]; exact hx8, ?_⟩
        obtain ⟨b', hb', H5⟩ := Go.Vc.SpB.coreDrive H3 c2
        rw [c4] at hb'
        injection hb' with hb'
        injection hb' with hb'
        subst hb'
        refine (rsync_spec H5).mono ?_
        rintro _ h6 ⟨rfl, H6⟩
        have H7 := Go.Vc.SpB.coreBack (k := kitR) (n := i) c4 H6
        have es : syncAt w2 ds2 (i : Int) = ((d.sync w2).1, (d.sync w2).2.1, ds2.set i (some (d.sync w2).2.2)) := by
          unfold syncAt; rw [c3]; simp only [dSet, Int.toNat_natCast]
        have hh3 := hh2.sync w2 (i : Int)
        obtain ⟨res, hres⟩ : ∃ res, res = syncAt w2 ds2 (i : Int) := ⟨_, rfl⟩
        rw [← hres] at hsy es hh3
        have H7 : SpB B h0 h6 (CoreA kitR a pw mc offs da res.2.1 res.2.2 :: BoxA g T_64_bool (gotC L) :: As) := by rw [es]; exact H7
        have hres1 : (d.sync w2).1 = res.1 := by rw [es]
        rw [hres1]
        refine ⟨_, rfl, br_ne (fun e3 => ?_) fun e3 => ?_⟩
        · rw [if_neg e3] at hsy
          rw [hsy]; exact ⟨rfl, H7.drop2⟩
        · rw [if_pos e3] at hsy
          exact ⟨(i + 1, res.2.1, res.2.2), by dsimp only; rw [Go.Vc.wrap_small _ (by omega) (by omega)]; rfl, ⟨by dsimp only; omega, hh3, hsy, H7.selT 2 [1, 0]⟩, by dsimp only; omega⟩
    · have : i = 64 := by omega
      subst this
      rw [slotsFrom_end] at hsy
      rw [hsy]
      exact ⟨rfl, H2.drop1⟩
end
end Go.Proofs.YtmaknfkhibljfaaGreat
namespace Go.Proofs.YtmaknfkhibljfaaGreat
open Go Go.Vc Go.Proofs Wl
set_option maxRecDepth 100000
section
variable {B : Blocks} {h0 h h' : Heap} {As : List HP} {a pw : Addr} {mc : List Value} {offs : Int} {da : List (Option Addr)} {w : Pow} {ds : Drvs}
theorem rpages_spec (x : ManV) (m : Mani) (s : Sl) (slots : List Int) (hX : St B h0 As fun h => RdM h x m ∧ Rd h s 1 intv slots) (hz : ManSz m) (hsl : slots.length ≤ 2 ^ 10) (hh : Has ds slots) (H : SpB B h0 h (CoreA kitR a pw mc offs da w ds :: As)) :
    Meets Tryz.prog wellspringref29_Store_pages_id #[.pointer (some a), manv x, .slice s.ptr s.len s.cap] h fun v h' => v = .int .i64 (layAll (pagesOf m slots) w ds).1 ∧ SpB B h0 h' (CoreA kitR a pw mc offs da (layAll (pagesOf m slots) w ds).2.1 (layAll (pagesOf m slots) w ds).2.2 :: As) := by
  refine wellspringref29_Store_pages_run (some a) x s ?_
  unfold wellspringref29_Store_pages_m
  refine H.boxed fun a1 h1 H1 => ?_
  have H1 : SpB B h0 h1 (BoxA a1 T_api_Manifest (manL x) :: CoreA kitR a pw mc offs da w ds :: As) := H1.front1
  have H1 : SpB B h0 h1 (PoolI [] :: BoxA a1 T_api_Manifest (manL x) :: CoreA kitR a pw mc offs da w ds :: As) := (H1.comp (.one (A := PoolI []) (Pres.refl _ _) (fun t ht => by cases ht))).front1
  have H1 := (H1.nil T_wellspringref29_Item 2 piv).front1
  have hpl := split_len m hz
  obtain ⟨pg, hpg⟩ : ∃ pg, pg = splitM m := ⟨_, rfl⟩
  rw [← hpg] at hpl
  have hsn := (hX.at [_] H).2.len
  refine loop_inv (fun t : Sl × Nat × List ((Int × Sl) × (Int × List UInt8)) => (t.1, (t.2.1 : Int))) (fun t h' => t.2.1 ≤ slots.length ∧ t.2.2.map Prod.snd = pagesOf m (slots.take t.2.1) ∧ SpB B h0 h' (OwnA T_wellspringref29_Item t.1 2 piv (t.2.2.map Prod.fst) :: PoolI t.2.2 :: BoxA a1 T_api_Manifest (manL x) :: CoreA kitR a pw mc offs da w ds :: As)) (fun t => slots.length - t.2.1) (⟨none, 0, 0⟩, 0, []) rfl ⟨by simp, by simp [pagesOf], H1⟩ ?_
  rintro ⟨o, i, Td⟩ h2 ⟨hi, hTd, H2⟩
  dsimp only at *
  have hTl : Td.length = i * pg.length := by
    have := congrArg List.length hTd
    have e : ∀ S : List Int, (pagesOf m S).length = S.length * pg.length := fun S => by
      induction S with
      | nil => simp [pagesOf]
      | cons n S ih =>
        have e1 : pagesOf m (n :: S) = (splitM m).map (fun c => (n, c)) ++ pagesOf m S := by unfold pagesOf; rw [List.flatMap_cons]
        rw [e1, List.length_append, List.length_map, ih, List.length_cons, Nat.succ_mul, hpg, Nat.add_comm]
    rw [e, List.length_map, List.length_take] at this
    rw [this, Nat.min_eq_left (by omega)]
  have hTb : Td.length ≤ 2 ^ 10 * 3000 := by rw [hTl]; exact Nat.mul_le_mul (by omega) hpl
  refine br_dec (fun e => ?_) (fun e => ?_)
  · have hi' : i < slots.length := by omega
    obtain ⟨n, hn⟩ : ∃ n, n = slots[i] := ⟨_, rfl⟩
    refine (hX.at [_, _, _, _] H2).2.get1 i rfl hi' n (by rw [hn]; rfl) ?_
    refine ⟨x, (H2.box 2 rfl).cells0 _ rfl, (rsplit_spec x m h2 (hX.at [_, _, _, _] H2).1 hz).mono ?_⟩
    rintro _ h3 ⟨r, rfl, R3⟩
    obtain ⟨rs, H3⟩ := (H2.comp1 R3).wFix fun _ => rfl
    rw [← hpg] at H3
    refine ⟨r, rfl, ?_⟩
    have F3 := H3.fixRd 0 rfl
    have hrl := F3.1.len
    have hrs := F3.2.1
    obtain ⟨T, hT⟩ : ∃ T : List ((Int × Sl) × (Int × List UInt8)), T = (rs.zip pg).map fun z => ((n, z.1), (n, z.2)) := ⟨_, rfl⟩
    have hTn : T.length = pg.length := by rw [hT]; simp; omega
    have hTs : T.map Prod.snd = pg.map fun c => (n, c) := by
      have hz := List.map_snd_zip (l₁ := rs) (l₂ := pg) (by omega)
      conv => rhs; rw [← hz]
      rw [hT]; simp [List.map_map, Function.comp_def]
    have hTg : ∀ j (hj : j < pg.length), T[j]'(by rw [hTn]; exact hj) = ((n, rs[j]'(by omega)), (n, pg[j])) := fun j hj => by subst hT; simp
    refine loop_inv (fun t : Sl × Nat => (t.1, (t.2 : Int))) (fun t h' => t.2 ≤ pg.length ∧ SpB B h0 h' (FixA (EltS 1 u8v) 1 slv r rs pg :: OwnA T_wellspringref29_Item t.1 2 piv (Td.map Prod.fst ++ (T.take t.2).map Prod.fst) :: PoolI Td :: BoxA a1 T_api_Manifest (manL x) :: CoreA kitR a pw mc offs da w ds :: As)) (fun t => pg.length - t.2) (o, 0) rfl ⟨by simp, by simpa using H3⟩ ?_
    rintro ⟨u, j⟩ h4 ⟨hj, H4⟩
    dsimp only at *
    refine br_dec (fun e2 => ?_) (fun e2 => ?_)
    · have hj' : j < pg.length := by omega
      refine (H4.fixRd 0 rfl).1.getH j rfl (by omega) ?_
      refine H4.push C_ok 1 rfl eItem rfl (by decide) (fun _ => rfl) one_piv (n, rs[j]'(by omega)) rfl (by decide) (by simp only [List.length_append, List.length_map, List.length_take]; omega) fun u' h5 H5 => ?_
      refine ⟨(u', j + 1), by dsimp only; rw [Go.Vc.wrap_small _ (by omega) (by omega)]; rfl, ⟨by dsimp only; omega, ?_⟩, by dsimp only; omega⟩
      dsimp only
      rw [take_snoc T j (by rw [hTn]; exact hj'), List.map_append, hTg _ hj', ← List.append_assoc]
      exact H5
    · have hje : j = pg.length := by omega
      subst hje
      rw [List.take_of_length_le (l := T) (by rw [hTn]; exact Nat.le_refl _), ← List.map_append] at H4
      have H5 := H4.merge 2 0 (by decide) rfl rfl (D := PoolI (Td ++ T)) (fun q1 q2 _ p1 p2 t ht => by
        rcases List.mem_append.1 ht with ht | ht
        · exact EltP.mono (p1 t ht) fun _ hb => .inl hb
        · rw [hT] at ht
          obtain ⟨z, hz2, rfl⟩ := List.mem_map.1 ht
          obtain ⟨k, hk⟩ := List.mem_iff_getElem?.1 hz2
          have hk' := hk
          rw [List.getElem?_zip_eq_some] at hk'
          exact ⟨rfl, Seq.mono (p2.2.2 k z.1 z.2 hk'.1 hk'.2) fun _ hb => .inr hb⟩)
      refine ⟨(u, i + 1, Td ++ T), by dsimp only; rw [Go.Vc.wrap_small _ (by omega) (by omega)]; rfl, ⟨by dsimp only; omega, ?_, H5.drop1⟩, by dsimp only; omega⟩
      dsimp only
      rw [List.map_append, hTd, hTs, take_snoc _ _ hi']
      unfold pagesOf
      rw [List.flatMap_append, List.flatMap_cons, List.flatMap_nil, List.append_nil, ← hpg, hn]
  · have hie : i = slots.length := by omega
    subst hie
    rw [List.take_length] at hTd
    have H3 := (H2.freeze 0 rfl fun _ => rfl).join0
    have H3 : SpB B h0 h2 (FixA EltP 2 piv o (Td.map Prod.fst) (pagesOf m slots) :: BoxA a1 T_api_Manifest (manL x) :: CoreA kitR a pw mc offs da w ds :: As) := H3.weak 0 rfl fun q ⟨q1, q2, _, b, c, z1, z2⟩ => by
      rw [← hTd]
      refine ⟨Seq.mono z2 c, by simp, fun j r' l' g1 g2 => ?_⟩
      rw [List.getElem?_map] at g1 g2
      cases g3 : Td[j]? with
      | none => rw [g3] at g1; cases g1
      | some t =>
        rw [g3] at g1 g2; simp at g1 g2; subst g1; subst g2
        exact EltP.mono (z1 t (List.mem_of_getElem? g3)) b
    have H3 := H3.selT 3 [2, 0, 1]
    have hpn : (pagesOf m slots).length ≤ 2 ^ 10 * 3000 := by rw [← hTd, List.length_map]; exact hTb
    refine (rlay_spec o (Td.map Prod.fst) (pagesOf m slots) (St.thing 0 rfl fun _ hq => hq) (by omega) (fun y hy => ?_) ⟨hh.1, fun y hy => ?_⟩ H3).mono ?_
    · rw [(pagesOf_mem hy).2]; decide
    · obtain ⟨z, hz1, rfl⟩ := List.mem_map.1 hy
      exact hh.2 _ (pagesOf_mem hz1).1
    rintro _ h4 ⟨rfl, H4⟩
    exact ⟨_, rfl, rfl, H4.drop2.drop2⟩
theorem rlive_spec (s : Sl) (l : List Int) (hs : Rd h s 1 intv l) (hl : l.length ≤ 2 ^ 30) (hin : ∀ x ∈ l, 0 ≤ x ∧ x < 64) (H : SpB B h0 h (CoreA kitR a pw mc offs da w ds :: As)) :
    Meets Tryz.prog wellspringref29_Store_live_id #[.pointer (some a), .slice s.ptr s.len s.cap] h fun v h' => ∃ r : Sl, v = .slice r.ptr r.len r.cap ∧ Sp h h' [OwnA T_int r 1 intv (liveOf ds l)] := by
  refine wellspringref29_Store_live_run (some a) s ?_
  unfold wellspringref29_Store_live_m
  have hsl := hs.len
  refine loop_inv (fun t : Sl × Nat => (t.1, (t.2 : Int))) (fun t h' => t.2 ≤ l.length ∧ Sp h h' [OwnA T_int t.1 1 intv (liveOf ds (l.take t.2))]) (fun t => l.length - t.2) (⟨none, 0, 0⟩, 0) rfl ⟨by simp, by simpa [liveOf] using (Sp.refl h).nil T_int 1 intv⟩ ?_
  rintro ⟨o, i⟩ h1 ⟨hi, H1⟩
  dsimp only at *
  refine br_dec (fun e => ?_) (fun e => ?_)
  · have hi' : i < l.length := by omega
    have hsplit : liveOf ds (l.take (i + 1)) = liveOf ds (l.take i) ++ (if isLive ds l[i] then [l[i]] else []) := by
      unfold liveOf; rw [take_snoc _ _ hi', List.filter_append, List.filter_cons, List.filter_nil]
    have hll : (liveOf ds (l.take i)).length ≤ l.length := by
      have := List.length_filter_le (isLive ds) (l.take i)
      unfold liveOf; simp at this ⊢; omega
    have next : ∀ {h' : Heap} {o' : Sl}, Sp h h' [OwnA T_int o' 1 intv (liveOf ds (l.take (i + 1)))] → ∃ t' : Sl × Nat, ((⟨o'.ptr, o'.len, o'.cap⟩ : Sl), IntKind.wrap .i64 ((i : Int) + 1)) = (t'.1, (t'.2 : Int)) ∧ (t'.2 ≤ l.length ∧ Sp h h' [OwnA T_int t'.1 1 intv (liveOf ds (l.take t'.2))]) ∧ l.length - t'.2 < l.length - i := fun {h' o'} H' =>
      ⟨(o', i + 1), by dsimp only; rw [Go.Vc.wrap_small _ (by omega) (by omega)]; rfl, ⟨by dsimp only; omega, H'⟩, by dsimp only; omega⟩
    refine (Seq.up hs H1.pres).get1 i rfl hi' l[i] rfl ?_
    have hx := hin _ (List.getElem_mem hi')
    have Hc := SpB.up H H1.pres
    obtain ⟨ok, hb⟩ := SpB.rcoreBox Hc
    obtain ⟨n, hn⟩ : ∃ n : Nat, l[i] = (n : Int) := ⟨l[i].toNat, by omega⟩
    have hn64 : n < 64 := by omega
    obtain ⟨p, hp1, hp2⟩ := rptr ok hb n hn64
    rw [hn] at hsplit ⊢
    refine ⟨a, rfl, ⟨by omega, by omega⟩, p, by rw [Int.toNat_natCast]; exact hp1, ?_⟩
    rcases at_cases ok (n : Int) with ⟨c1, c2⟩ | ⟨n', d, b, c0, c1, c2, c3, c4, c5⟩
    · have hpn : p = none := by
        unfold dptr at c2
        rw [if_pos (by omega), Int.toNat_natCast, hp2] at c2; exact c2
      subst hpn
      have hlv : isLive ds (n : Int) = false := by unfold isLive; rw [c1]
      rw [hlv] at hsplit
      exact br_b (fun e => by cases e) fun _ => next (by rw [hsplit]; simpa using H1)
    · have c0 : n = n' := by omega
      subst c0
      rw [hp2] at c4
      injection c4 with c4
      subst c4
      have hlv : isLive ds (n : Int) = !d.lost := by unfold isLive; rw [c3]
      obtain ⟨b', hb', H2⟩ := Go.Vc.SpB.coreDrive Hc c2
      rw [hp2] at hb'
      injection hb' with hb'
      injection hb' with hb'
      subst hb'
      obtain ⟨_, sd, bd, hdb, _, _⟩ := RDrvA.box H2
      refine br_b (fun _ => ?_) fun e => by cases e
      refine ⟨a, rfl, ⟨by omega, by omega⟩, some b, by rw [Int.toNat_natCast]; exact hp1, b, rfl, d.lost, hdb.cell rfl, br_not (fun e => ?_) (fun e => ?_)⟩
      · rw [hlv, e] at hsplit
        refine H1.push C_ok 0 rfl eInt rfl (by decide) (fun _ => rfl) one_int (n : Int) rfl (by decide) (by omega) fun o' h4 H4 => next ?_
        rw [hsplit]; exact H4
      · rw [hlv, e] at hsplit
        exact next (by rw [hsplit]; simpa using H1)
  · rw [List.take_of_length_le (by omega)] at H1
    exact ⟨o, rfl, H1⟩
end
end Go.Proofs.YtmaknfkhibljfaaGreat
namespace Go.Vc
open Go Wl Go.Proofs.YtmaknfkhibljfaaGreat
def mayE (p : Pm) (extra : Int) (l : List Int) : Int :=
  if (placesP l).2 && (mayP p && inB extra 0 16) then
    if (placesAt l l.length).any fun i => decide (l.getD i.toNat 0 < ((splitM (newMani p extra l)).length : Int)) then 7 else 0
  else 1
theorem formatP_eq (p : Pm) (extra : Int) (w : Pow) (l : List Int) : formatP p extra w l = if mayE p extra l = 0 then layAll (pagesOf (newMani p extra l) (placesAt l l.length)) w (newDrvs l (placesAt l l.length).length) else (mayE p extra l, w, []) := by
  unfold formatP mayE
  by_cases h : ((placesP l).2 && (mayP p && inB extra 0 16)) = true
  · rw [if_pos h, if_pos h]
    by_cases h2 : ((placesAt l l.length).any fun i => decide (l.getD i.toNat 0 < ((splitM (newMani p extra l)).length : Int))) = true
    · rw [if_pos h2, if_pos h2]; rfl
    · rw [if_neg h2, if_neg h2]; rfl
  · rw [if_neg h, if_neg h]; rfl
theorem newMani_ok {p : Pm} {extra : Int} {l : List Int} (h : mayE p extra l = 0) : mayP p = true ∧ 0 ≤ extra ∧ extra ≤ 16 ∧ (placesP l).2 = true ∧ ((placesAt l l.length).any fun i => decide (l.getD i.toNat 0 < ((splitM (newMani p extra l)).length : Int))) = false := by
  unfold mayE at h
  by_cases h1 : ((placesP l).2 && (mayP p && inB extra 0 16)) = true
  · rw [if_pos h1] at h
    by_cases h2 : ((placesAt l l.length).any fun i => decide (l.getD i.toNat 0 < ((splitM (newMani p extra l)).length : Int))) = true
    · rw [if_pos h2] at h; cases h
    · unfold inB at h1
      simp only [Bool.and_eq_true, decide_eq_true_eq] at h1
      exact ⟨h1.2.1, h1.2.2.1, h1.2.2.2, h1.1, by simpa using h2⟩
  · rw [if_neg h1] at h; cases h
abbrev zeroM : ManV := (0, 0, 0, 0, 0, 0, ⟨none, 0, 0⟩, ⟨none, 0, 0⟩)
end Go.Vc
namespace Go.Proofs.YtmaknfkhibljfaaGreat
open Go Go.Vc Go.Proofs Wl
set_option maxRecDepth 20000
theorem rmayFormat_spec (p : Pm) (extra : Int) (s : Sl) (l : List Int) (h : Heap) (hs : Rd h s 1 intv l) (hl : l.length ≤ 2 ^ 20) :
    Meets Tryz.prog wellspringref29_MayFormat_id #[pmv p, .int .i64 extra, .slice s.ptr s.len s.cap] h fun v h' => ∃ y : ManV, v = .tuple #[manv y, .int .i64 (mayE p extra l)] ∧ (mayE p extra l ≠ 0 → Sp h h' []) ∧ (mayE p extra l = 0 → Sp h h' [ManA y (newMani p extra l)]) := by
  refine wellspringref29_MayFormat_run p extra s ?_
  unfold wellspringref29_MayFormat_m
  have hsl := hs.len
  refine (Sp.refl h).boxed fun a1 h1 H1 => ?_
  refine H1.alloc C_ok rfl fun a2 h2 H2 => ?_
  have H2 : Sp h h2 [BoxA a1 T_api_Params [.int .i64 p.1, .int .i64 p.2.1, .int .i64 p.2.2], BoxA a2 T_api_Manifest (manL zeroM)] := H2
  have bad : ∀ (e : Int) {h' : Heap} {Bs : List HP}, Sp h h' (BoxA a2 T_api_Manifest (manL zeroM) :: Bs) → mayE p extra l = e → e ≠ 0 →
      Runs Tryz.prog (Instr.storeAt T_api_Manifest (.pointer (some a2)) (manv zeroM)) h' fun _ h4 => ∃ res : ManV, cellsAt h4 a2 0 (manL res) ∧ ∃ y : ManV, Value.tuple #[manv res, .int .i64 e] = .tuple #[manv y, .int .i64 (mayE p extra l)] ∧ (mayE p extra l ≠ 0 → Sp h h4 []) ∧ (mayE p extra l = 0 → Sp h h4 [ManA y (newMani p extra l)]) := fun e {h' Bs} H' he h0 => by
    refine H'.storeAll C_ok 0 rfl rfl (manL zeroM) rfl rfl rfl rfl fun h4 H4 => ?_
    exact ⟨zeroM, (H4.box 0 rfl).cells0 _ rfl, zeroM, by rw [he], fun _ => .zip H4.pres, fun hh => absurd (he.symm.trans hh) h0⟩
  have e1 : ((placesP l).2 && (mayP p && inB extra 0 16)) = false → mayE p extra l = 1 := fun hh => by unfold mayE; rw [hh]; rfl
  refine join_in ⟨p, (H2.box 0 rfl).cells0 _ rfl, (refMay_spec p h2).mono ?_⟩
  rintro _ h3 ⟨rfl, R3⟩
  have H3 : Sp h h3 [BoxA a2 T_api_Manifest (manL zeroM), BoxA a1 T_api_Params [.int .i64 p.1, .int .i64 p.2.1, .int .i64 p.2.2]] := (H2.up R3.pres).sel [1, 0]
  refine ⟨_, rfl, br_not (fun b => bad 1 H3 (e1 (by rw [b]; simp)) (by decide)) fun b1 => br_dec (fun b => bad 1 H3 (e1 (by unfold inB; simp; omega)) (by decide)) fun b2 => br_dec (fun b => bad 1 H3 (e1 (by unfold inB; simp; omega)) (by decide)) fun b3 => br_dec (fun b => bad 1 H3 (e1 ?_) (by decide)) fun b4 => ?_⟩
  · have : (placesP l).2 = false := by
      unfold placesP
      by_cases hh : l.all (inB · 0 512) = true
      · rw [if_pos hh]; simp; omega
      · rw [if_neg hh]
    rw [this]; rfl
  have hl64 : l.length ≤ 64 := by omega
  refine ⟨p, (H3.box 1 rfl).cells0 _ rfl, ?_⟩
  refine H3.alloc C_ok rfl fun a11 h4 H4 => ?_
  refine H4.storeAll C_ok 2 rfl rfl (manL (1, 0, p.1, p.2.1, p.2.2, extra, ⟨none, 0, 0⟩, ⟨none, 0, 0⟩)) rfl rfl rfl rfl fun h5 H5 => ?_
  have H5 : Sp h h5 [BoxA a2 T_api_Manifest (manL zeroM), BoxA a11 T_api_Manifest (manL (1, 0, p.1, p.2.1, p.2.2, extra, ⟨none, 0, 0⟩, ⟨none, 0, 0⟩)), OwnA T_int ⟨none, 0, 0⟩ 1 intv (placesAt l 0)] := (H5.nil T_int 1 intv).sel [0, 2, 3]
  refine loop_inv (fun t : Sl × Nat => (t.2 : Int)) (fun t h' => t.2 ≤ l.length ∧ (l.take t.2).all (inB · 0 512) = true ∧ Sp h h' [BoxA a2 T_api_Manifest (manL zeroM), BoxA a11 T_api_Manifest (manL (1, 0, p.1, p.2.1, p.2.2, extra, t.1, ⟨none, 0, 0⟩)), OwnA T_int t.1 1 intv (placesAt l t.2)]) (fun t => l.length - t.2) (⟨none, 0, 0⟩, 0) rfl ⟨by simp, by simp, H5⟩ ?_
  rintro ⟨o, i⟩ h6 ⟨hi, hall, H6⟩
  dsimp only at *
  have hbad : ∀ (hi' : i < l.length), inB l[i] 0 512 = false → mayE p extra l = 1 := fun hi' hb => e1 (by
    have : (placesP l).2 = false := by
      unfold placesP
      rw [if_neg]
      intro hc
      have := List.all_eq_true.1 hc _ (List.getElem_mem hi')
      rw [hb] at this; cases this
    rw [this]; rfl)
  refine br_dec (fun e => ?_) (fun e => ?_)
  · have hi' : i < l.length := by omega
    have hpl := placesAt_len l i
    refine (Seq.up hs H6.pres).get1 i rfl hi' l[i] rfl ?_
    refine join_in (br_dec (fun e1 => bad 1 H6 (hbad hi' (by unfold inB; simp; omega)) (by decide)) (fun e1 => br_dec (fun e2 => bad 1 H6 (hbad hi' (by unfold inB; simp; omega)) (by decide)) (fun e2 => ?_)))
    have hall' : (l.take (i + 1)).all (inB · 0 512) = true := by
      rw [take_snoc l i hi', List.all_append, hall, Bool.true_and, List.all_cons, List.all_nil, Bool.and_true]
      unfold inB; simp; omega
    refine br_dec (fun e3 => ?_) (fun e3 => ?_)
    · refine ⟨o, (H6.box 1 rfl).cell rfl, ?_⟩
      refine H6.push C_ok 2 rfl eInt rfl (by decide) (fun _ => rfl) one_int (i : Int) rfl (by decide) (by omega) fun o' h7 H7 => ?_
      refine H7.storeAt C_ok 1 rfl rfl rfl rfl rfl (by simp [manL]) fun h8 H8 => ?_
      refine ⟨(o', i + 1), by dsimp only; rw [Go.Vc.wrap_small _ (by omega) (by omega)]; rfl, ⟨by dsimp only; omega, hall', ?_⟩, by dsimp only; omega⟩
      dsimp only
      rw [placesAt_succ l i hi', if_pos (by omega)]
      exact H8
    · refine ⟨(o, i + 1), by dsimp only; rw [Go.Vc.wrap_small _ (by omega) (by omega)]; rfl, ⟨by dsimp only; omega, hall', ?_⟩, by dsimp only; omega⟩
      dsimp only
      rw [placesAt_succ l i hi', if_neg (by omega), List.append_nil]
      exact H6
  · have hie : i = l.length := by omega
    subst hie
    rw [List.take_length] at hall
    have hol := (H6.own 2 rfl).len
    have hp : placesP l = (placesAt l l.length, decide (l.length ≤ 64) && decide (0 < (placesAt l l.length).length)) := by unfold placesP; rw [if_pos hall]
    refine ⟨o, (H6.box 1 rfl).cell rfl, br_eq (fun b => bad 1 H6 (e1 ?_) (by decide)) fun b => ?_⟩
    · rw [hp]
      dsimp only
      rw [decide_eq_false (show ¬ 0 < (placesAt l l.length).length by omega), Bool.and_false]; rfl
    have hok : ((placesP l).2 && (mayP p && inB extra 0 16)) = true := by
      rw [hp, b1, decide_eq_true hl64, decide_eq_true (show 0 < (placesAt l l.length).length by omega)]
      unfold inB; simp; omega
    obtain ⟨m, hm⟩ : ∃ m, m = newMani p extra l := ⟨_, rfl⟩
    obtain ⟨P, hP⟩ : ∃ P, P = placesAt l l.length := ⟨_, rfl⟩
    have hz : ManSz m := hm ▸ newMani_sz p extra l hl64
    have hPl : P.length ≤ 64 := by rw [hP]; exact Nat.le_trans (placesAt_len _ _) hl64
    obtain ⟨x, hx⟩ : ∃ x : ManV, x = (1, 0, p.1, p.2.1, p.2.2, extra, o, ⟨none, 0, 0⟩) := ⟨_, rfl⟩
    rw [← hx, ← hP] at H6
    rw [← hP] at hol
    have hmx : ∀ {h' : Heap} {q : Blocks}, Seq h' q o 1 intv P → o.len ≤ o.cap → ManIs h' q x m := fun {h' q} hq hc => by
      subst hx; subst hm
      exact ⟨rfl, rfl, rfl, rfl, by show Seq _ _ o 1 intv (placesAt l l.length); rw [← hP]; exact hq, EltL.nil _ _ _ _, hc, Nat.le_refl _⟩
    have hxo : cellOf h6 (a11.add 6) = some (.slice o.ptr o.len o.cap) := by
      have := (H6.box 1 rfl).cell (j := 6) (v := .slice o.ptr o.len o.cap) (by rw [hx]; rfl)
      exact this
    refine ⟨o, hxo, ?_⟩
    refine loop_inv (fun i : Nat => (i : Int)) (fun i h' => i ≤ P.length ∧ ((P.take i).any fun i => decide (l.getD i.toNat 0 < ((splitM m).length : Int))) = false ∧ Sp h h' [BoxA a2 T_api_Manifest (manL zeroM), BoxA a11 T_api_Manifest (manL x), OwnA T_int o 1 intv P]) (fun i => P.length - i) 0 rfl ⟨by omega, by simp, H6⟩ ?_
    rintro i h7 ⟨hi, hall, H7⟩
    dsimp only at *
    refine br_dec (fun e5 => ?_) (fun e5 => ?_)
    · have hi' : i < P.length := by omega
      obtain ⟨n, hn, en, hpos⟩ : ∃ n : Nat, n < l.length ∧ P[i] = (n : Int) ∧ 0 < l.getD n 0 := by subst hP; exact placesAt_at l l.length i hi'
      refine (H7.seq 2 rfl fun _ => rfl).get1 i rfl hi' (n : Int) (by rw [en]; rfl) ?_
      refine (Seq.up hs H7.pres).get1A n rfl hn (l.getD n 0) (by rw [getD_lt hn]; rfl) fun a14 hc14 => ?_
      refine ⟨x, (H7.box 1 rfl).cells0 _ rfl, (rsplit_spec x m h7 (hmx (H7.seq 2 rfl fun _ => rfl) (H7.own 2 rfl).cap) hz).mono ?_⟩
      rintro _ h9 ⟨u, rfl, R9⟩
      have H9 := H7.comp1 R9
      have hul := (SpB.wLen H9).1
      refine ⟨u, rfl, held_grow R9.pres ⟨hc14, trivial⟩, ?_⟩
      refine br_dec (fun e6 => bad 7 H9.drop1 ?_ (by decide)) (fun e6 => ?_)
      · unfold mayE
        rw [if_pos hok, ← hP, ← hm, if_pos (List.any_eq_true.2 ⟨P[i], List.getElem_mem hi', by rw [en, Int.toNat_natCast]; exact decide_eq_true (by omega)⟩)]
      · refine ⟨i + 1, by rw [Go.Vc.wrap_small _ (by omega) (by omega)]; rfl, ⟨by omega, ?_, H9.drop1⟩, by omega⟩
        rw [take_snoc _ _ hi', List.any_append, hall, Bool.false_or, List.any_cons, List.any_nil, Bool.or_false, en, Int.toNat_natCast]
        exact decide_eq_false (by omega)
    · have hPi : i = P.length := by omega
      subst hPi
      rw [List.take_length] at hall
      refine ⟨x, (H7.box 1 rfl).cells0 _ rfl, ?_⟩
      refine H7.storeAll C_ok 0 rfl rfl (manL x) rfl rfl rfl rfl fun h8 H8 => ?_
      have h0 : mayE p extra l = 0 := by unfold mayE; rw [if_pos hok, ← hP, ← hm, hall]; rfl
      refine ⟨x, (H8.box 0 rfl).cells0 _ rfl, x, by rw [h0], fun hh => absurd h0 hh, fun _ => ?_⟩
      rw [← hm]
      have H9 : Sp h h8 [OwnA T_int o 1 intv P] := H8.sel [2]
      exact H9.weak 0 rfl fun q hq => hmx (hq.1.seq (fun _ => rfl) hq.2) hq.1.cap
end Go.Proofs.YtmaknfkhibljfaaGreat
