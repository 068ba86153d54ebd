/- Part of the proof that wellspringlaw11's EncodeTells answers true whatever the input reads, and leaves it as it was; no condition. -/
import Derived.Test.YtgcbahhnnphejaaGreatKC
set_option linter.unusedVariables false
set_option linter.unusedSimpArgs false
namespace Go.Proofs.YtgcbahhnnphejaaGreat
open Go Go.Vc Go.Proofs Wl
set_option maxRecDepth 100000
/-- A list with spare room of two behind it, in which a mark stands. -/
theorem spareB_spec (s : Sl) (l : Row) (mk : UInt8) (h : Heap) (hl : Rd h s 1 u8v l) (hsz : l.length ≤ 2 ^ 30) : Meets Tryz.prog wellspringkeep_Spare_byte_id #[.slice s.ptr s.len s.cap, .int .u8 mk.toNat] h fun v h' =>
    ∃ r : Sl, v = .slice r.ptr r.len r.cap ∧ r.len = l.length ∧ r.cap = l.length + 2 ∧ Sp h h' [OwnA T_uint8 ⟨r.ptr, l.length + 2, l.length + 2⟩ 1 u8v (l ++ [mk, mk])] := by
  refine wellspringkeep_Spare_byte_run s mk.toNat ?_
  unfold wellspringkeep_Spare_byte_m
  have hlen := hl.len
  rw [Go.Vc.wrap_small _ (by omega) (by omega)]
  refine (Sp.refl h).make C_ok u8v eU8 (by decide) 0 rfl rfl l.length (l.length + 2) (by omega) (by omega) (by omega) (by omega) fun v h1 hvl hvc H1 => ?_
  refine H1.copy C_ok 0 rfl eU8 (fun _ => rfl) (Seq.up hl H1.pres) (by simp) one_u8 fun h2 H2 => ?_
  refine ⟨⟨by omega, by omega⟩, ?_⟩
  rw [Int.toNat_natCast]
  have H2' : Sp h h2 [OwnA T_uint8 ⟨v.ptr, l.length, v.cap⟩ 1 u8v l] := by
    have : v = ⟨v.ptr, l.length, v.cap⟩ := by obtain ⟨a, b, c⟩ := v; simp only at hvl ⊢; rw [hvl]
    rw [← this]; exact H2
  refine loop_inv (fun i : Nat => ((l.length + i : Nat) : Int)) (fun i h' => i ≤ 2 ∧ Sp h h' [OwnA T_uint8 ⟨v.ptr, l.length + i, v.cap⟩ 1 u8v (l ++ List.replicate i mk)]) (fun i => 2 - i) 0 (by rw [hlen]; rfl) ⟨by omega, by simpa using H2'⟩ ?_
  rintro i h3 ⟨hi, H3⟩
  have hll : (l ++ List.replicate i mk).length = l.length + i := by simp
  refine br_dec (fun e => ?_) (fun e => ?_)
  · refine H3.pokeGrow C_ok 0 rfl (fun _ => rfl) rfl (by rw [hll]) (by dsimp only; omega) rfl mk rfl rfl rfl fun h4 H4 => ?_
    refine ⟨i + 1, by rw [Go.Vc.wrap_small _ (by omega) (by omega)]; rfl, ⟨by omega, ?_⟩, by omega⟩
    rw [List.append_assoc, ← List.replicate_succ', hll] at H4
    exact H4
  · have hi2 : i = 2 := by omega
    subst hi2
    refine ⟨v, rfl, hvl, hvc, ?_⟩
    rw [hvc] at H3
    exact H3
theorem keptB_spec (s w : Sl) (l : Row) (mk : UInt8) (h : Heap) (hl : Rd h ⟨s.ptr, l.length + 2, l.length + 2⟩ 1 u8v (l ++ [mk, mk])) (h1 : s.len = l.length) (h2 : s.cap = l.length + 2) (hw : Rd h w 1 u8v l) (hsz : l.length ≤ 2 ^ 30) :
    Meets Tryz.prog wellspringkeep_Kept_byte_id #[.slice s.ptr s.len s.cap, .slice w.ptr w.len w.cap, .int .u8 mk.toNat] h fun v h' => v = .bool true ∧ h' = h := by
  refine wellspringkeep_Kept_byte_run s w mk.toNat ?_
  unfold wellspringkeep_Kept_byte_m
  have hs : Rd h s 1 u8v l := by
    have := hl.take l.length (by simp)
    rw [List.take_left] at this
    have e : s = ⟨s.ptr, l.length, l.length + 2⟩ := by obtain ⟨a, b, c⟩ := s; simp only at h1 h2 ⊢; rw [h1, h2]
    rw [e]; exact this
  refine ⟨⟨by omega, by omega⟩, (sameB_spec s w l l h hs hw (by omega)).mono ?_⟩
  rintro v h3 ⟨rfl, rfl⟩
  refine ⟨_, rfl, br_not (fun e => absurd e (by simp)) fun _ => ?_⟩
  rw [Int.toNat_natCast]
  refine loop_inv (fun i : Nat => ((l.length + i : Nat) : Int)) (fun i h' => i ≤ 2 ∧ h' = h3) (fun i => 2 - i) 0 (by rw [h1]; rfl) ⟨by omega, rfl⟩ ?_
  rintro i h4 ⟨hi, rfl⟩
  refine br_dec (fun e => ?_) (fun e => ⟨rfl, rfl⟩)
  have hi' : i < 2 := by omega
  rw [h2]
  refine hl.get1 (l.length + i) rfl (by simp; omega) (mk.toNat : Int) ?_ ?_
  · rw [List.getElem_append_right (by omega)]
    rcases (show i = 0 ∨ i = 1 by omega) with rfl | rfl <;> simp [u8v]
  · refine br_ne (fun e => absurd rfl e) fun _ => ?_
    exact ⟨i + 1, by rw [Go.Vc.wrap_small _ (by omega) (by omega)]; rfl, ⟨by omega, rfl⟩, by omega⟩
def pv3 (p : Pm) : List Value := [.int .i64 p.1, .int .i64 p.2.1, .int .i64 p.2.2]
abbrev ePm : ElemOk C.toCfg T_sl_api_Params T_api_Params 3 [.int .i64 0, .int .i64 0, .int .i64 0] 24 := ⟨_, _, rfl, rfl, rfl, rfl, rfl, rfl⟩

/-! ### The reference's block -/
theorem refSum_spec (a b : Sl) (la lb : Row) (h : Heap) (ha : Rd h a 1 u8v la) (hb : Rd h b 1 u8v lb) (hl : la.length = lb.length) (hs : lb.length ≤ 2 ^ 30) :
    Meets Tryz.prog wellspringref01_Sum_id #[.slice a.ptr a.len a.cap, .slice b.ptr b.len b.cap] h fun v h' => ∃ r : Sl, v = .slice r.ptr r.len r.cap ∧ Sp h h' [OwnA T_uint8 r 1 u8v (addB 1 la lb)] := by
  refine wellspringref01_Sum_run a b ?_
  unfold wellspringref01_Sum_m
  refine (refAxpy_spec 1 a b la lb h ha hb hl hs).mono ?_
  rintro v h1 ⟨r, rfl, R⟩
  exact ⟨r, rfl, r, rfl, R⟩
theorem refAdd_spec (p : Pm) (m at_ : Sl) (M : Mat) (l : List Int) (n w : Nat) (h : Heap) (hm : Rd2 h m 1 u8v M) (ha : Rd h at_ 1 intv l) (hw : p.2.2 = w) (hM : evenB w M) (hl : M.length = n) (hin : ∀ x ∈ l, 0 ≤ x ∧ x < (n : Int)) (hn : n ≤ 64) (hw2 : w ≤ 64) (hll : l.length ≤ 64) :
    Meets Tryz.prog wellspringref11_Add_id #[pmv p, .slice m.ptr m.len m.cap, .slice at_.ptr at_.len at_.cap] h fun v h' => ∃ r : Sl, v = .slice r.ptr r.len r.cap ∧ Sp h h' [OwnA T_uint8 r 1 u8v (symB w M l)] := by
  have hml := hm.len; have hal := ha.len
  refine wellspringref11_Add_run p m at_ ?_
  unfold wellspringref11_Add_m
  refine (Sp.refl h).boxed fun a h1 H1 => ?_
  refine ⟨p.2.2, (H1.box 0 rfl).cell rfl, ?_⟩
  refine H1.make C_ok u8v eU8 (by decide) 0 rfl rfl w w hw hw (Nat.le_refl _) (by omega) fun o h2 _ _ H2 => ?_
  refine loop_inv (fun t : Sl × Nat => (t.1, (t.2 : Int))) (fun t h' => t.2 ≤ l.length ∧ Sp h h' [BoxA a T_api_Params [.int .i64 p.1, .int .i64 p.2.1, .int .i64 p.2.2], OwnA T_uint8 t.1 1 u8v (symB w M (l.take t.2))]) (fun t => l.length - t.2) (o, 0) rfl ⟨by simp, H2⟩ ?_
  rintro ⟨s, k⟩ h3 ⟨hk, H3⟩
  dsimp only at *
  refine br_dec (fun e => ?_) (fun e => ?_)
  · have hk' : k < l.length := by omega
    have hx := hin _ (List.getElem_mem hk')
    refine (Seq.up ha H3.pres).get1 k rfl hk' _ rfl ?_
    refine (hm.up H3.pres).get l[k].toNat (by omega) (by omega) fun r hr => ?_
    have hSl := sym_take_len hM hl hin k hk
    have hrl : (M[l[k].toNat]'(by omega)).length = w := hM _ (List.getElem_mem _)
    refine (refSum_spec r s _ _ h3 hr (H3.seq 1 rfl (fun _ => rfl)) (by omega) (by omega)).mono ?_
    rintro v h4 ⟨r2, rfl, R4⟩
    have H4 := (H3.comp R4).del 1
    refine ⟨r2, rfl, (r2, k + 1), by dsimp only; rw [Go.Vc.wrap_small _ (by omega) (by omega)]; rfl, ⟨by dsimp only; omega, ?_⟩, by dsimp only; omega⟩
    dsimp only
    rw [take_snoc _ _ hk', sym_snoc, row_lt (by omega)]
    exact H4
  · rw [List.take_of_length_le (by omega)] at H3
    exact ⟨s, rfl, H3.take 1 (fun i A hi => by cases i with | zero => exact hi | succ i => simp at hi)⟩
/-- A block of the reference at a place. -/
def BlkR (h : Heap) (b : Addr) (p : Pm) (seed : Int) (M : Mat) : Prop := ∃ m : Sl, Box h b T_wellspringref11_Block (blkC p seed m) ∧ Rd2 h m 1 u8v M
theorem refSymbol_spec (b : Addr) (p : Pm) (seed id : Int) (M : Mat) (n w : Nat) (h : Heap) (hb : BlkR h b p seed M) (hp : mayP p = true) (hw : p.2.2 = w) (hn : (colsP p).toNat = n) (hM : evenB w M) (hl : M.length = n) :
    Meets Tryz.prog wellspringref11_Block_Symbol_id #[.pointer (some b), .int .i64 id] h fun v h' => ∃ r : Sl, v = .slice r.ptr r.len r.cap ∧ Sp h h' [OwnA T_uint8 r 1 u8v (if mayID id then symB w M (colsI n seed id) else [])] := by
  obtain ⟨m, hb1, hm⟩ := hb
  have hpp := (mayP_iff p).1 hp
  have hc : colsP p = p.1 + p.2.1 := by rw [colsP, if_pos hp]
  refine wellspringref11_Block_Symbol_run (some b) id ?_
  unfold wellspringref11_Block_Symbol_m
  refine (refMayID_spec id h).mono ?_
  rintro v h1 ⟨rfl, rfl⟩
  refine ⟨_, rfl, br_not (fun e => ⟨⟨none, 0, 0⟩, rfl, by rw [e]; exact (Sp.refl h1).nil T_uint8 1 u8v⟩) fun hid => ?_⟩
  rw [hid, if_pos rfl]
  refine ⟨b, rfl, p, hb1.cells0 _ rfl, b, rfl, m, hb1.cell rfl, b, rfl, p, hb1.cells0 _ rfl, b, rfl, seed, hb1.cell rfl, (refAt_spec p seed id h1).mono ?_⟩
  rintro v h2 ⟨c, rfl, R2⟩
  rw [hp, hid, Bool.and_self, if_pos rfl, hn] at R2
  have hb2 := hb1.pres R2.pres hb1.lt
  refine ⟨c, rfl, ⟨hb2.cell rfl, hb2.cell0 rfl, hb2.cell rfl, hb2.cell rfl, trivial⟩, ?_⟩
  have hin : ∀ x ∈ colsI n seed id, 0 ≤ x ∧ x < (n : Int) := fun x hx => colsI_mem (by omega) (by omega) hx
  have hcl := colsI_len (n := n) (by omega) (by omega) seed id
  refine (refAdd_spec p m c M _ n w h2 (hm.up R2.pres) (R2.seq 0 rfl (fun _ => rfl)) hw hM hl hin (by omega) (by omega) (by omega)).mono ?_
  rintro v h3 ⟨r, rfl, R3⟩
  exact ⟨r, rfl, trivial, r, rfl, (R2.comp R3).take 1 (fun i A hi => by cases i with | zero => exact hi | succ i => simp at hi)⟩
set_option maxHeartbeats 4000000 in
theorem refNew_spec (p : Pm) (seed : Int) (data : Sl) (d : Row) (h : Heap) (hd : Rd h data 1 u8v d) (hc : data.len ≤ data.cap) :
    Meets Tryz.prog wellspringref11_New_id #[pmv p, .int .u32 seed, .slice data.ptr data.len data.cap] h fun v h' =>
      (newE p seed d.length = 0 → ∃ (b : Addr) (m : Sl), v = .tuple #[.pointer (some b), .int .i64 0] ∧ Sp h h' [RowsA T_sl_uint8 m 1 u8v (midP p seed d), BoxA b T_wellspringref11_Block (blkC p seed m)]) ∧
      (newE p seed d.length ≠ 0 → v = .tuple #[.pointer none, .int .i64 (newE p seed d.length)] ∧ Sp h h' []) := by
  have hdl := hd.len
  refine wellspringref11_New_run p seed data ?_
  unfold wellspringref11_New_m
  refine (Sp.refl h).boxed fun a h1 H1 => ?_
  refine join_in ?_
  refine ⟨p, (H1.box 0 rfl).cells0 _ rfl, (refMay_spec p h1).mono ?_⟩
  rintro v h2 ⟨rfl, R2⟩
  have H2 := H1.comp R2
  have no : ∀ {h3 : Heap} (x : Int), x ≠ 0 → newE p seed d.length = x → Sp h h3 [BoxA a T_api_Params [.int .i64 p.1, .int .i64 p.2.1, .int .i64 p.2.2]] →
      (newE p seed d.length = 0 → ∃ (b : Addr) (m : Sl), Value.tuple #[.pointer none, .int .i64 x] = .tuple #[.pointer (some b), .int .i64 0] ∧ Sp h h3 [RowsA T_sl_uint8 m 1 u8v (midP p seed d), BoxA b T_wellspringref11_Block (blkC p seed m)]) ∧
      (newE p seed d.length ≠ 0 → Value.tuple #[.pointer none, .int .i64 x] = .tuple #[.pointer none, .int .i64 (newE p seed d.length)] ∧ Sp h h3 []) := fun x hx hne H => by
    refine ⟨fun e => absurd (hne.symm.trans e) hx, fun _ => ⟨by rw [hne], .zip H.pres⟩⟩
  refine ⟨_, rfl, br_not (fun e => no 1 (by decide) (by rw [newE, e]; rfl) H2) fun hp => ?_⟩
  have hpp := (mayP_iff p).1 hp
  obtain ⟨K, hK⟩ : ∃ K : Nat, p.1 = K := ⟨p.1.toNat, by omega⟩
  obtain ⟨Hh, hH⟩ : ∃ H : Nat, p.2.1 = H := ⟨p.2.1.toNat, by omega⟩
  obtain ⟨w, hw⟩ : ∃ w : Nat, p.2.2 = w := ⟨p.2.2.toNat, by omega⟩
  have hKw : K * w ≤ 16 * 24 := Nat.mul_le_mul (by omega) (by omega)
  have eKw : p.1 * p.2.2 = ((K * w : Nat) : Int) := by rw [hK, hw, Int.natCast_mul]
  refine ⟨p.1, (H2.box 0 rfl).cell0 rfl, p.2.2, (H2.box 0 rfl).cell rfl, ?_⟩
  rw [eKw, Go.Vc.wrap_small _ (by omega) (by omega)]
  refine br_ne (fun e => no 1 (by decide) (by rw [newE, hp, decide_eq_false (by rw [eKw]; intro e2; exact e (by rw [hdl]; exact e2))]; rfl) H2) fun el => ?_
  have hlen : d.length = K * w := by omega
  refine ⟨p, (H2.box 0 rfl).cells0 _ rfl, (refRight_spec p seed h2).mono ?_⟩
  rintro v h3 ⟨rfl, R3⟩
  have H3 : Sp h h3 [BoxA a T_api_Params [.int .i64 p.1, .int .i64 p.2.1, .int .i64 p.2.2]] := H2.comp R3
  have hnew : newE p seed d.length = if fullI p seed (firstI p) then 0 else 8 := by rw [newE, hp, decide_eq_true (by rw [eKw, hlen])]; rfl
  refine ⟨_, rfl, br_not (fun e => no 8 (by decide) (by rw [hnew, e]; rfl) H3) fun hf => ?_⟩
  rw [hf, if_pos rfl] at hnew
  have B : BlkOk p seed d K Hh w (K + Hh) := ⟨hp, hf, hK, hH, hw, rfl, by omega, by omega, by omega, by omega, by omega, by omega, hlen⟩
  refine ⟨p, (H3.box 0 rfl).cells0 _ rfl, (refAhead_spec p h3 hp).mono ?_⟩
  rintro v h5 ⟨ra, rfl, R5⟩
  rw [hK, hH, Int.toNat_natCast, Int.toNat_natCast] at R5
  have H5 := (H3.comp R5).rows0 T_sl_uint8 1 u8v
  have hal : (aheadRows K Hh).length = Hh := by simp [aheadRows]
  have hral := (R5.rd2 0 rfl).len
  refine ⟨ra, rfl, ?_⟩
  refine loop_inv (fun t : Sl × Nat => (t.1, (t.2 : Int))) (fun t h' => t.2 ≤ Hh ∧ Sp h h' [BoxA a T_api_Params [.int .i64 p.1, .int .i64 p.2.1, .int .i64 p.2.2], RowsA T_sl_uint8 ra 1 u8v (aheadRows K Hh), RowsA T_sl_uint8 t.1 1 u8v (List.replicate t.2 (zeroB w))]) (fun t => Hh - t.2) (⟨none, 0, 0⟩, 0) rfl ⟨by simp, H5⟩ ?_
  rintro ⟨s, k⟩ h6 ⟨hk, H6⟩
  dsimp only at *
  refine br_dec (fun e => ?_) (fun e => ?_)
  · refine ⟨p.2.2, (H6.box 0 rfl).cell rfl, ?_⟩
    refine H6.make C_ok u8v eU8 (by decide) 0 rfl rfl w w hw hw (Nat.le_refl _) (by omega) fun z h7 _ _ H7 => ?_
    have H7' := H7.freeze 3 rfl (fun _ => rfl)
    refine H7'.rowPush C_ok 2 3 (by decide) rfl rfl eSlU8 (by simp; omega) fun s' h8 H8 => ?_
    refine ⟨(s', k + 1), by dsimp only; rw [Go.Vc.wrap_small _ (by omega) (by omega)]; rfl, ⟨by dsimp only; omega, ?_⟩, by dsimp only; omega⟩
    dsimp only
    rw [List.replicate_succ']
    exact H8.del 3
  have hkH : k = Hh := by omega
  subst hkH
  refine loop_inv (fun t : Sl × Sl × Nat => (t.1, t.2.1, (t.2.2 : Int))) (fun t h' => t.2.2 ≤ K ∧ Sp h h' [BoxA a T_api_Params [.int .i64 p.1, .int .i64 p.2.1, .int .i64 p.2.2], RowsA T_sl_uint8 t.1 1 u8v (aheadRows K k ++ (List.range t.2.2).map fun i : Nat => rowI (K + k) seed (i : Int)), RowsA T_sl_uint8 t.2.1 1 u8v (List.replicate k (zeroB w) ++ (List.range t.2.2).map (pcL d w))]) (fun t => K - t.2.2) (ra, s, 0) rfl ⟨by simp, by simpa using H6⟩ ?_
  rintro ⟨u, v, i⟩ h10 ⟨hi, H10⟩
  dsimp only at *
  refine ⟨p.1, (H10.box 0 rfl).cell0 rfl, br_dec (fun e2 => ?_) (fun e2 => ?_)⟩
  · have hi' : i < K := by omega
    have m1 : (i + 1) * w ≤ K * w := Nat.mul_le_mul_right w hi'
    have m2 : i * w ≤ (i + 1) * w := Nat.mul_le_mul_right w (by omega)
    refine ⟨p, (H10.box 0 rfl).cells0 _ rfl, (refRow_spec p seed i h10).mono ?_⟩
    rintro v2 h11 ⟨rr, rfl, R11⟩
    rw [hp, show mayID (i : Int) = true by simp [mayID]; omega, Bool.and_self, if_pos rfl, B.colsN] at R11
    have H11 := (H10.comp R11).freeze 3 rfl (fun _ => rfl)
    refine ⟨rr, rfl, ?_⟩
    refine H11.rowPush C_ok 1 3 (by decide) rfl rfl eSlU8 (by simp; omega) fun u' h12 H12' => ?_
    have H12 := H12'.del 3
    refine ⟨p.2.2, (H12.box 0 rfl).cell rfl, p.2.2, (H12.box 0 rfl).cell rfl, ?_⟩
    rw [Go.Vc.wrap_small ((i : Int) + 1) (by omega) (by omega)]
    have e5 : (i : Int) * p.2.2 = ((i * w : Nat) : Int) := by rw [hw, Int.natCast_mul]
    have e6 : ((i : Int) + 1) * p.2.2 = (((i + 1) * w : Nat) : Int) := by rw [hw, Int.natCast_mul]; rfl
    rw [e5, e6, i64_of_nat _ (by omega), i64_of_nat _ (by omega), Int.toNat_natCast, Int.toNat_natCast]
    refine ⟨⟨Int.natCast_nonneg _, Int.ofNat_le.2 m2, Int.ofNat_le.2 (by omega)⟩, ?_⟩
    have H13 := H12.nil T_uint8 1 u8v
    have hpc := pcL_len (l := d) (w := w) (i := i) (by omega)
    refine H13.append (v := pcOf data w i) C_ok 3 rfl eU8 e_u8sl rfl (by decide) (fun _ => rfl) ((Seq.up hd H13.pres).piece hc w i (by omega)) one_u8 (by simp; omega) fun x h14 H14 => ?_
    have H14' := H14.freeze 3 rfl (fun _ => rfl)
    refine H14'.rowPush C_ok 2 3 (by decide) rfl rfl eSlU8 (by simp; omega) fun v' h15 H15 => ?_
    refine ⟨(u', v', i + 1), rfl, ⟨by dsimp only; omega, ?_⟩, by dsimp only; omega⟩
    dsimp only
    rw [List.range_succ, List.map_append, List.map_append, ← List.append_assoc, ← List.append_assoc]
    exact H15.del 3
  have hiK : i = K := by omega
  subst hiK
  have hAe : aheadRows i k ++ ((List.range i).map fun i : Nat => rowI (i + k) seed (i : Int)) = aheadRows i k ++ ((List.range i).map fun i : Nat => rowI (i + k) seed (i : Int)) := rfl
  have hmat := B.mat
  rw [← hmat] at H10
  refine (refSolve_spec u v _ (rightB i k w d) (i + k) w h10 (H10.rd2 1 rfl) (H10.rd2 2 rfl) B.matLen (by rw [right_len]) B.matEven (right_even B.len) (by omega) (by omega) B.rank).mono ?_
  rintro v2 h17 ⟨r, rfl, R17⟩
  have H17 := H10.comp R17
  refine ⟨(r, 0), rfl, p, (H17.box 0 rfl).cells0 _ rfl, ?_⟩
  refine H17.boxed (t := T_wellspringref11_Block) fun b h18 H18 => ?_
  refine ⟨fun _ => ⟨b, r, rfl, ?_⟩, fun e => absurd hnew e⟩
  rw [← B.mid] at H18
  exact H18.take 3 (fun i A hi => by
    cases i with
    | zero => exact hi
    | succ i => cases i with
      | zero => exact hi
      | succ i => simp at hi)
end Go.Proofs.YtgcbahhnnphejaaGreat

namespace Go.Proofs.YtgcbahhnnphejaaGreat
open Go Go.Vc Go.Proofs Wl
set_option maxRecDepth 100000
set_option maxHeartbeats 8000000 in
theorem etells_spec (p : Pm) (a b c seed : Int) (x : Sl) (lx : Row) (ids : Sl) (li : List Int) (fit : Bool) (h : Heap) (hx : Rd h x 1 u8v lx) (hxc : x.len ≤ x.cap) (hi : Rd h ids 1 intv li) :
    Meets Tryz.prog wellspringlaw11_EncodeTells_id #[pmv p, .int .i64 a, .int .i64 b, .int .i64 c, .int .u64 seed, .slice x.ptr x.len x.cap, .slice ids.ptr ids.len ids.cap, .bool fit] h fun v h' => v = .bool true ∧ Pres (fun b => b < h.size) h h' := by
  refine wellspringlaw11_EncodeTells_run p a b c seed x ids fit ?_
  unfold wellspringlaw11_EncodeTells_m
  have hxl := hx.len; have hil := hi.len
  refine (Sp.refl h).boxed fun q0 h1 H1 => ?_
  refine br_dec (fun _ => ?_) (fun hlen => ?_)
  · refine (wakes_spec h1).mono ?_
    rintro v h2 ⟨rfl, R2⟩
    exact ⟨_, rfl, rfl, (H1.comp R2).pres⟩
  refine join_cut (fun _ h' => Sp h h' []) ?_ ?_
  rotate_left
  · rintro _ h3 H3
    refine (wakes_spec h3).mono ?_
    rintro v h4 ⟨rfl, R4⟩
    exact ⟨_, rfl, rfl, (H3.comp R4).pres⟩
  refine join_cut (fun (s : Sl × Int × Int) h' => ∃ ps : List Pm, ps.length ≤ 2 ∧ s.2 = ((ps.length : Int), 0) ∧ Sp h h' [OwnA T_api_Params s.1 3 pv3 ps]) ?_ ?_
  · refine ⟨p, (H1.box 0 rfl).cells0 _ rfl, (params_spec a b c h1).mono ?_⟩
    rintro v h3 ⟨rfl, R3⟩
    have H3 : Sp h h3 [BoxA q0 T_api_Params [.int .i64 p.1, .int .i64 p.2.1, .int .i64 p.2.2]] := H1.up R3.pres
    have hb3 := H3.box 0 rfl
    refine ⟨_, rfl, ⟨hb3.cell0 rfl, hb3.cell rfl, hb3.cell rfl, trivial⟩, ?_⟩
    refine H3.lit C_ok pv3 ePm rfl [p, playP a b c] rfl (show 2 * 3 ≤ 2 ^ 20 by decide) rfl fun v h4 H4 => ⟨trivial, ?_⟩
    have hvl := (H4.own 1 rfl).len
    refine ⟨[p, playP a b c], by simp, ?_, H4.del 0⟩
    dsimp only; rw [hvl]
  rintro ⟨ps, nn, z⟩ h3 ⟨pl, hpl, hnn, H3⟩
  dsimp only at hnn H3 ⊢
  cases hnn
  refine loop_inv (fun i : Nat => (i : Int)) (fun i h' => i ≤ pl.length ∧ Sp h h' [OwnA T_api_Params ps 3 pv3 pl]) (fun i => pl.length - i) 0 rfl ⟨by omega, H3⟩ ?_
  rintro i h4 ⟨hi4, H4⟩
  refine br_dec (fun e => ?_) (fun e => .zip H4.pres)
  have hi' : i < pl.length := by omega
  have next : ∀ {h' : Heap}, Sp h h' [OwnA T_api_Params ps 3 pv3 pl] → ∃ t' : Nat, IntKind.wrap .i64 ((i : Int) + 1) = (t' : Int) ∧ (t' ≤ pl.length ∧ Sp h h' [OwnA T_api_Params ps 3 pv3 pl]) ∧ pl.length - t' < pl.length - i := fun H =>
    ⟨i + 1, by rw [Go.Vc.wrap_small _ (by omega) (by omega)]; rfl, ⟨by omega, H⟩, by omega⟩
  refine (H4.seq 0 rfl (fun _ => rfl)).getk i rfl hi' pl[i] rfl ?_
  generalize pl[i] = q
  refine H4.alloc C_ok rfl fun y h5 H5 => ?_
  refine H5.storeAll C_ok 1 rfl rfl [.int .i64 q.1, .int .i64 q.2.1, .int .i64 q.2.2] rfl rfl rfl rfl fun h6 H6 => ?_
  refine join_cut (fun (t : Int × Sl) h' => ∃ dl : Row, dl.length ≤ 400 ∧ Rd h' t.2 1 u8v dl ∧ t.2.len ≤ t.2.cap ∧ Sp h h' [OwnA T_api_Params ps 3 pv3 pl, BoxA y T_api_Params [.int .i64 q.1, .int .i64 q.2.1, .int .i64 q.2.2]]) ?_ ?_
  · refine join_cut (fun (t : Bool) h' => (t = true → mayP q = true) ∧ Sp h h' [OwnA T_api_Params ps 3 pv3 pl, BoxA y T_api_Params [.int .i64 q.1, .int .i64 q.2.1, .int .i64 q.2.2]]) ?_ ?_
    · refine br_b (fun _ => ?_) (fun _ => ⟨fun e => (by cases e), H6⟩)
      refine ⟨q, (H6.box 1 rfl).cells0 _ rfl, (pre_May_spec q h6).mono ?_⟩
      rintro v h7 ⟨rfl, R7⟩
      exact ⟨_, rfl, fun e => e, H6.up R7.pres⟩
    · rintro t h7 ⟨hm, H7⟩
      refine br_b (fun e => ?_) (fun _ => ⟨lx, by omega, Seq.up hx H7.pres, hxc, H7⟩)
      have hqq := (mayP_iff q).1 (hm e)
      have hb7 := H7.box 1 rfl
      refine ⟨q, hb7.cells0 _ rfl, q.1, hb7.cell0 rfl, q.2.2, hb7.cell rfl, (seed_spec q seed h7).mono ?_⟩
      rintro v h8 ⟨s, rfl, R8⟩
      have H8 := H7.up R8.pres
      have hb8 := H8.box 1 rfl
      refine ⟨s, rfl, ⟨hb8.cell rfl, hb8.cell0 rfl, trivial⟩, ?_⟩
      obtain ⟨K, hK⟩ : ∃ K : Nat, q.1 = K := ⟨q.1.toNat, by omega⟩
      obtain ⟨w, hw⟩ : ∃ w : Nat, q.2.2 = w := ⟨q.2.2.toNat, by omega⟩
      have hKw : K * w ≤ 16 * 24 := Nat.mul_le_mul (by omega) (by omega)
      have eKw : IntKind.wrap .i64 (q.1 * q.2.2) = ((K * w : Nat) : Int) := by rw [hK, hw, ← Int.natCast_mul, Go.Vc.wrap_small _ (by omega) (by omega)]
      rw [eKw]
      refine (data_spec x lx (K * w) h8 (Seq.up hx H8.pres) (by omega)).mono ?_
      rintro v h9 ⟨u, rfl, R9⟩
      have H9 := H8.up R9.pres
      have hb9 := H9.box 1 rfl
      exact ⟨u, rfl, ⟨hb9.cell rfl, hb9.cell0 rfl, trivial⟩, dataB lx (K * w), by rw [dataB_len]; omega, R9.seq 0 rfl (fun _ => rfl), (R9.own 0 rfl).cap, H9⟩
  rintro ⟨s, u⟩ h13 ⟨dl, hdl, hu, huc, H13⟩
  dsimp only at hu huc ⊢
  have hul := hu.len
  refine (spareB_spec u dl 71 h13 hu (by omega)).mono ?_
  rintro v h14 ⟨r, rfl, hr1, hr2, R14⟩
  have rdr : ∀ {hh : Heap} {Bs : List HP}, Sp h13 hh (OwnA T_uint8 ⟨r.ptr, dl.length + 2, dl.length + 2⟩ 1 u8v (dl ++ [71, 71]) :: Bs) → Rd hh r 1 u8v dl := fun HH => by
    have := (HH.seq 0 rfl (fun _ => rfl)).take dl.length (by simp)
    rw [List.take_left] at this
    have e : r = ⟨r.ptr, dl.length, dl.length + 2⟩ := by obtain ⟨a, b, c⟩ := r; simp only at hr1 hr2 ⊢; rw [hr1, hr2]
    rw [e]; exact this
  have H14 := H13.up R14.pres
  refine ⟨r, rfl, q, (H14.box 1 rfl).cells0 _ rfl, ?_⟩
  have kept : ∀ {hh : Heap} {Bs : List HP}, Sp h13 hh (OwnA T_uint8 ⟨r.ptr, dl.length + 2, dl.length + 2⟩ 1 u8v (dl ++ [71, 71]) :: Bs) → Meets Tryz.prog wellspringkeep_Kept_byte_id #[.slice r.ptr r.len r.cap, .slice u.ptr u.len u.cap, .int .u8 71] hh fun v h' => v = .bool true ∧ h' = hh := fun {hh} _ HH =>
    keptB_spec r u dl 71 hh (HH.seq 0 rfl (fun _ => rfl)) hr1 hr2 (Seq.up hu HH.pres) (by omega)
  by_cases hne : newE q s dl.length = 0
  case neg =>
    refine (new_spec q s r dl h14 (rdr R14) (by omega)).mono ?_
    rintro v h15 ⟨_, hh⟩
    obtain ⟨rfl, R15⟩ := hh hne
    have Q15 := R14.comp R15
    have H15 := H13.up Q15.pres
    refine ⟨(none, newE q s dl.length), rfl, q, (H15.box 1 rfl).cells0 _ rfl, (refNew_spec q s u dl h15 (Seq.up hu Q15.pres) huc).mono ?_⟩
    rintro v h16 ⟨_, hh⟩
    obtain ⟨rfl, R16⟩ := hh hne
    have Q16 := Q15.comp R16
    have H16 := H13.up Q16.pres
    refine ⟨(none, newE q s dl.length), rfl, join_in ?_⟩
    refine br_ne (fun e => absurd rfl e) fun _ => ?_
    have e0 : ((!(Option.isNone (none : Option Addr))) == (newE q s dl.length == (0 : Int))) = true := by
      rw [show (newE q s dl.length == (0 : Int)) = false from beq_eq_false_iff_ne.2 hne]; rfl
    refine br_not (fun e => absurd (e0.symm.trans e) (by decide)) fun _ => ?_
    refine (kept Q16).mono ?_
    rintro v h17 ⟨rfl, rfl⟩
    refine ⟨_, rfl, br_not (fun e => by cases e) fun _ => ?_⟩
    refine br_b (fun _ => ?_) (fun e => by cases e)
    exact next (H16.del 1)
  have hmay : mayP q = true := by
    cases hm : mayP q with
    | true => rfl
    | false => rw [newE, hm] at hne; simp at hne
  have hlenq : (dl.length : Int) = q.1 * q.2.2 := by
    by_cases hd : (dl.length : Int) = q.1 * q.2.2
    · exact hd
    · rw [newE, hmay, decide_eq_false hd] at hne; simp at hne
  have hfull : fullI q s (firstI q) = true := by
    cases hf : fullI q s (firstI q) with
    | true => rfl
    | false => rw [newE, hmay, decide_eq_true hlenq, hf] at hne; simp at hne
  obtain ⟨K, Hh, w, n, B⟩ := blkOk hmay hfull hlenq
  obtain ⟨hml, hme⟩ := B.midLen
  have hn20 := B.n2
  have hw24 := B.w2
  refine (new_ok B r h14 (rdr R14) (by omega)).mono ?_
  rintro v h15 ⟨b1, m1, rfl, R15⟩
  obtain ⟨M, hM⟩ : ∃ M, M = midP q s dl := ⟨_, rfl⟩
  rw [← hM] at hml hme R15
  have Q15 := R14.comp R15
  have H15 := H13.up Q15.pres
  refine ⟨(some b1, 0), rfl, q, (H15.box 1 rfl).cells0 _ rfl, (refNew_spec q s u dl h15 (Seq.up hu Q15.pres) huc).mono ?_⟩
  rintro v h16 ⟨hh, _⟩
  obtain ⟨b2, m2, rfl, R16⟩ := hh hne
  rw [← hM] at R16
  have Q16 : Sp h13 h16 [OwnA T_uint8 ⟨r.ptr, dl.length + 2, dl.length + 2⟩ 1 u8v (dl ++ [71, 71]), RowsA T_sl_uint8 m1 1 u8v M, BoxA b1 T_encode_Block (blkC q s m1), RowsA T_sl_uint8 m2 1 u8v M, BoxA b2 T_wellspringref11_Block (blkC q s m2)] := Q15.comp R16
  refine ⟨(some b2, 0), rfl, join_in ?_⟩
  refine br_ne (fun e => absurd rfl e) fun _ => br_not (fun e => by cases e) fun _ => ?_
  refine (kept Q16).mono ?_
  rintro v h17 ⟨rfl, rfl⟩
  refine ⟨_, rfl, br_not (fun e => by cases e) fun _ => br_b (fun e => by cases e) fun _ => join_in ?_⟩
  have c2 := (Q16.box 4 rfl).cell (j := 4) (v := .slice m2.ptr m2.len m2.cap) rfl
  refine ⟨b2, rfl, m2, c2, (mid_spec b1 q s M w h17 ⟨m1, Q16.box 2 rfl, Q16.rd2 1 rfl⟩ hme (by omega) (by omega)).mono ?_⟩
  rintro v h19 ⟨r19, rs19, rfl, hrs19, R19⟩
  have Q19 := Q16.up R19.pres
  refine ⟨r19, rfl, ⟨held_up c2 R19.pres, trivial⟩, (rowsB_spec r19 m2 M M h19 (R19.mat hrs19 (fun _ => rfl)) (Q19.rd2 3 rfl) (by omega) (fun r hr => by rw [hme r hr]; omega)).mono ?_⟩
  rintro v h20 ⟨rfl, rfl⟩
  rw [decide_eq_true rfl]
  refine ⟨_, rfl, trivial, br_not (fun e => by cases e) fun _ => ?_⟩
  refine loop_inv (fun k : Nat => (k : Int)) (fun k h' => k ≤ li.length ∧ Sp h13 h' [OwnA T_uint8 ⟨r.ptr, dl.length + 2, dl.length + 2⟩ 1 u8v (dl ++ [71, 71]), RowsA T_sl_uint8 m1 1 u8v M, BoxA b1 T_encode_Block (blkC q s m1), RowsA T_sl_uint8 m2 1 u8v M, BoxA b2 T_wellspringref11_Block (blkC q s m2)]) (fun k => li.length - k) 0 rfl ⟨by omega, Q19⟩ ?_
  rintro k h22 ⟨hk, Q22⟩
  have stop := next ((H13.up Q22.pres).del 1)
  refine join_in (br_dec (fun e1 => br_dec (fun e2 => ?_) (fun _ => stop)) (fun _ => stop))
  have hk' : k < li.length := by omega
  have two : ∀ {hh : Heap} (id : Int), Sp h13 hh [OwnA T_uint8 ⟨r.ptr, dl.length + 2, dl.length + 2⟩ 1 u8v (dl ++ [71, 71]), RowsA T_sl_uint8 m1 1 u8v M, BoxA b1 T_encode_Block (blkC q s m1), RowsA T_sl_uint8 m2 1 u8v M, BoxA b2 T_wellspringref11_Block (blkC q s m2)] →
      Meets Tryz.prog encode_Block_Symbol_id #[.pointer (some b1), .int .i64 id] hh (fun v h' => ∃ r : Sl, v = .slice r.ptr r.len r.cap ∧ Sp hh h' [OwnA T_uint8 r 1 u8v (if mayID id then symB w M (colsI n s id) else [])]) ∧
      Meets Tryz.prog wellspringref11_Block_Symbol_id #[.pointer (some b2), .int .i64 id] hh (fun v h' => ∃ r : Sl, v = .slice r.ptr r.len r.cap ∧ Sp hh h' [OwnA T_uint8 r 1 u8v (if mayID id then symB w M (colsI n s id) else [])]) := fun {hh} id Q =>
    ⟨symbol_spec b1 q s id M n w hh ⟨m1, Q.box 2 rfl, Q.rd2 1 rfl⟩ hmay B.s B.colsN hme hml, refSymbol_spec b2 q s id M n w hh ⟨m2, Q.box 4 rfl, Q.rd2 3 rfl⟩ hmay B.s B.colsN hme hml⟩
  have slen : ∀ id, (if mayID id then symB w M (colsI n s id) else ([] : Row)).length ≤ 2 ^ 40 := fun id => by
    split
    · rw [hM, B.symLen id]; omega
    · simp
  have hi22 := Seq.up (Seq.up hi H13.pres) Q22.pres
  refine hi22.get1 k rfl hk' _ rfl ?_
  refine hi22.get1A k rfl hk' _ rfl fun a36 hc36 => ?_
  refine ((two li[k] Q22).1).mono ?_
  rintro v h24 ⟨r38, rfl, R24⟩
  have Q24 := Q22.up R24.pres
  refine ⟨r38, rfl, ⟨held_up hc36 R24.pres, trivial⟩, ((two li[k] Q24).2).mono ?_⟩
  rintro v h25 ⟨r39, rfl, R25⟩
  have Q25 := Q24.up R25.pres
  refine ⟨r39, rfl, trivial, (sameB_spec r38 r39 _ _ h25 ((R24.comp R25).seq 0 rfl (fun _ => rfl)) (R25.seq 0 rfl (fun _ => rfl)) (slen _)).mono ?_⟩
  rintro v h26 ⟨rfl, rfl⟩
  rw [decide_eq_true rfl]
  refine ⟨_, rfl, trivial, br_not (fun e => by cases e) fun _ => ?_⟩
  refine ((two (k : Int) Q25).1).mono ?_
  rintro v h27 ⟨r41, rfl, R27⟩
  have Q27 := Q25.up R27.pres
  refine ⟨r41, rfl, trivial, ((two (k : Int) Q27).2).mono ?_⟩
  rintro v h28 ⟨r42, rfl, R28⟩
  have Q28 := Q27.up R28.pres
  refine ⟨r42, rfl, trivial, (sameB_spec r41 r42 _ _ h28 ((R27.comp R28).seq 0 rfl (fun _ => rfl)) (R28.seq 0 rfl (fun _ => rfl)) (slen _)).mono ?_⟩
  rintro v h29 ⟨rfl, rfl⟩
  rw [decide_eq_true rfl]
  refine ⟨_, rfl, trivial, br_not (fun e => by cases e) fun _ => ?_⟩
  exact ⟨k + 1, by rw [Go.Vc.wrap_small _ (by omega) (by omega)]; rfl, ⟨by omega, Q28⟩, by omega⟩
end Go.Proofs.YtgcbahhnnphejaaGreat
