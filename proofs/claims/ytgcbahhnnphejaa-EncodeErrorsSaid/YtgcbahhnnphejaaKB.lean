/- Part of the proofs that wellspringlaw11's laws answer true whatever the input reads, and leave it as it was; no condition. -/
import Derived.Test.YtgcbahhnnphejaaKA
set_option linter.unusedVariables false
set_option linter.unusedSimpArgs false
namespace Go.Proofs.Ytgcbahhnnphejaa
open Go Go.Vc Go.Proofs Wl
set_option maxRecDepth 100000
theorem sum_at {a b : Row} (h : a.length = b.length) {k : Nat} (hk : k < a.length) : (sumR a b)[k]? = some (a[k] ^^^ (b[k]'(by omega))) := by
  simp only [sumR, addB, List.getElem?_zipWith, List.getElem?_eq_getElem hk, List.getElem?_eq_getElem (show k < b.length by omega), Gf.one_mul]
  rw [UInt8.xor_comm]
theorem sumR_len {a b : Row} (h : a.length = b.length) : (sumR a b).length = a.length := by rw [sumR, add_len h, h]
theorem fill_set {l z : Row} {k : Nat} (h : l.length = z.length) (hk : k < l.length) : (l.take k ++ z.drop k).set k l[k] = l.take (k + 1) ++ z.drop (k + 1) := by
  have hl : (l.take k).length = k := by simp; omega
  rw [List.set_append_right _ _ (by omega), hl, Nat.sub_self, List.drop_eq_getElem_cons (show k < z.length by omega), List.set_cons_zero, take_snoc _ _ hk, List.append_assoc]; rfl
theorem _root_.Wl.BlkOk.symZero {p : Pm} {seed : Int} {K H w n N : Nat} (B : BlkOk p seed (zeroB N) K H w n) (id : Int) : symB w (midP p seed (zeroB N)) (colsI n seed id) = zeroB w := by
  have hz := sumR_zero N
  have h := sym_sum B B (hz.symm ▸ B) id
  rw [hz, sumR_self, B.symLen] at h
  exact h
set_option maxHeartbeats 4000000 in
theorem sums_spec (a b c seed : Int) (x : Sl) (lx : Row) (y : Sl) (ly : Row) (id : Int) (h : Heap) (hx : Rd h x 1 u8v lx) (hy : Rd h y 1 u8v ly) :
    Meets Try.prog wellspringlaw11_EncodeSums_id #[.int .i64 a, .int .i64 b, .int .i64 c, .int .u64 seed, .slice x.ptr x.len x.cap, .slice y.ptr y.len y.cap, .int .i64 id] h fun v h' => v = .bool true ∧ Pres (fun b => b < h.size) h h' := by
  refine wellspringlaw11_EncodeSums_run a b c seed x y id ?_
  unfold wellspringlaw11_EncodeSums_m
  refine (params_spec a b c h).mono ?_
  rintro v h1 ⟨rfl, H1⟩
  obtain ⟨p, hp⟩ : ∃ p, p = playP a b c := ⟨_, rfl⟩
  have hmay : mayP p = true := by rw [hp]; exact playP_may a b c
  rw [← hp]
  have hpp := (mayP_iff p).1 hmay
  refine ⟨p, rfl, ?_⟩
  refine H1.alloc C_ok rfl fun q h2 H2 => ?_
  refine H2.storeAll C_ok 0 rfl rfl [.int .i64 p.1, .int .i64 p.2.1, .int .i64 p.2.2] rfl rfl rfl rfl fun h3 H3 => ?_
  refine ⟨p, (H3.box 0 rfl).cells0 _ rfl, (seed_spec p seed h3).mono ?_⟩
  rintro v h4 ⟨s, rfl, R4⟩
  have H4 := H3.comp R4
  refine ⟨s, rfl, p, (H4.box 0 rfl).cells0 _ rfl, (right_spec p s h4).mono ?_⟩
  rintro v h5 ⟨rfl, R5⟩
  have H5 : Sp h h5 [BoxA q T_api_Params [.int .i64 p.1, .int .i64 p.2.1, .int .i64 p.2.2]] := H4.comp R5
  refine ⟨_, rfl, br_not (fun e => ?_) (fun hf => ?_)⟩
  · refine (wakes_spec h5).mono ?_
    rintro v h6 ⟨rfl, R6⟩
    exact ⟨_, rfl, rfl, (H5.comp R6).pres⟩
  obtain ⟨K, hK⟩ : ∃ K : Nat, p.1 = K := ⟨p.1.toNat, by omega⟩
  obtain ⟨Hh, hH⟩ : ∃ H : Nat, p.2.1 = H := ⟨p.2.1.toNat, by omega⟩
  obtain ⟨w, hw⟩ : ∃ w : Nat, p.2.2 = w := ⟨p.2.2.toNat, by omega⟩
  have hKw : K * w ≤ 16 * 24 := Nat.mul_le_mul (by omega) (by omega)
  have eKw : IntKind.wrap .i64 (p.1 * p.2.2) = ((K * w : Nat) : Int) := by rw [hK, hw, ← Int.natCast_mul, wrap_small _ (by omega) (by omega)]
  have B0 : ∀ d : Row, d.length = K * w → BlkOk p s d K Hh w (K + Hh) := fun d hd => ⟨hmay, hf, hK, hH, hw, rfl, by omega, by omega, by omega, by omega, by omega, by omega, hd⟩
  obtain ⟨N, hN⟩ : ∃ N, N = K * w := ⟨_, rfl⟩
  rw [← hN] at eKw hKw
  obtain ⟨d0, hd0⟩ : ∃ d, d = dataB lx N := ⟨_, rfl⟩
  obtain ⟨d1, hd1⟩ : ∃ d, d = dataB ly N := ⟨_, rfl⟩
  have l0 : d0.length = N := by rw [hd0, dataB_len]
  have l1 : d1.length = N := by rw [hd1, dataB_len]
  have ls : (sumR d0 d1).length = N := by rw [sumR_len (by omega), l0]
  have lz : (zeroB N).length = N := by simp [zeroB]
  refine join_cut (fun (t : Sl × Sl × Sl) h' => Sp h h' [BoxA q T_api_Params [.int .i64 p.1, .int .i64 p.2.1, .int .i64 p.2.2], OwnA T_uint8 t.1 1 u8v d0, OwnA T_uint8 t.2.1 1 u8v d1, OwnA T_uint8 t.2.2 1 u8v (zeroB N)]) ?_ ?_
  · have c0 := H5.box 0 rfl
    refine ⟨p.1, c0.cell0 rfl, p.2.2, c0.cell rfl, p.1, c0.cell0 rfl, p.2.2, c0.cell rfl, p.1, c0.cell0 rfl, p.2.2, c0.cell rfl, ?_⟩
    rw [eKw]
    have held : ∀ {h' : Heap} {As : List HP}, Sp h h' (BoxA q T_api_Params [.int .i64 p.1, .int .i64 p.2.1, .int .i64 p.2.2] :: As) →
        Held.ok [(q.add 2, (.int .i64 p.2.2)), (q, (.int .i64 p.1)), (q.add 2, (.int .i64 p.2.2)), (q, (.int .i64 p.1)), (q.add 2, (.int .i64 p.2.2)), (q, (.int .i64 p.1))] h' := fun H =>
      have c := H.box 0 rfl
      ⟨c.cell rfl, c.cell0 rfl, c.cell rfl, c.cell0 rfl, c.cell rfl, c.cell0 rfl, trivial⟩
    have dx : ∀ {h' : Heap} {As : List HP}, Sp h h' As → Meets Try.prog wellspringlaw11_Data_id #[.slice x.ptr x.len x.cap, .int .i64 N] h' fun v h2 => ∃ r : Sl, v = .slice r.ptr r.len r.cap ∧ Sp h' h2 [OwnA T_uint8 r 1 u8v d0] := fun {h'} _ H => by
      rw [hd0]; exact data_spec x lx N h' (Seq.up hx H.pres) (by omega)
    have dy : ∀ {h' : Heap} {As : List HP}, Sp h h' As → Meets Try.prog wellspringlaw11_Data_id #[.slice y.ptr y.len y.cap, .int .i64 N] h' fun v h2 => ∃ r : Sl, v = .slice r.ptr r.len r.cap ∧ Sp h' h2 [OwnA T_uint8 r 1 u8v d1] := fun {h'} _ H => by
      rw [hd1]; exact data_spec y ly N h' (Seq.up hy H.pres) (by omega)
    refine ⟨?_, ?_⟩
    · refine (dx H5).mono ?_
      rintro v h7 ⟨u, rfl, R7⟩
      have H7 := H5.comp R7
      refine ⟨u, rfl, held H7, ?_, ?_⟩
      · refine (dy H7).mono ?_
        rintro v h8 ⟨v', rfl, R8⟩
        have H8 := H7.comp R8
        refine ⟨v', rfl, held H8, ?_⟩
        exact H8.make C_ok u8v eU8 (by decide) 0 rfl rfl N N rfl rfl (Nat.le_refl _) (by omega) fun o h9 _ _ H9 => ⟨held H9, H9⟩
      · refine H7.make C_ok u8v eU8 (by decide) 0 rfl rfl N N rfl rfl (Nat.le_refl _) (by omega) fun o h9 _ _ H9 => ⟨held H9, ?_⟩
        refine (dy H9).mono ?_
        rintro v h8 ⟨v', rfl, R8⟩
        have H8 := H9.comp R8
        exact ⟨v', rfl, held H8, H8.swap2 2 3 rfl rfl⟩
    · refine H5.make C_ok u8v eU8 (by decide) 0 rfl rfl N N rfl rfl (Nat.le_refl _) (by omega) fun o h9 _ _ H9 => ⟨held H9, ?_⟩
      refine (dx H9).mono ?_
      rintro v h7 ⟨u, rfl, R7⟩
      have H7 := H9.comp R7
      refine ⟨u, rfl, held H7, (dy H7).mono ?_⟩
      rintro v h8 ⟨v', rfl, R8⟩
      have H8 := H7.comp R8
      exact ⟨v', rfl, held H8, (H8.swap2 1 2 rfl rfl).swap2 2 3 rfl rfl⟩
  rintro ⟨u, v, o⟩ h15 H15
  dsimp only at *
  have hul := (H15.own 1 rfl).len
  have hvl := (H15.own 2 rfl).len
  have hol := (H15.own 3 rfl).len
  refine loop_inv (fun k : Nat => (k : Int)) (fun k h' => k ≤ N ∧ Sp h h' [BoxA q T_api_Params [.int .i64 p.1, .int .i64 p.2.1, .int .i64 p.2.2], OwnA T_uint8 u 1 u8v d0, OwnA T_uint8 v 1 u8v d1, OwnA T_uint8 o 1 u8v ((sumR d0 d1).take k ++ (zeroB N).drop k)]) (fun k => N - k) 0 rfl ⟨by omega, by simpa using H15⟩ ?_
  rintro k h16 ⟨hk, H16⟩
  refine br_dec (fun e => ?_) (fun e => ?_)
  · have hk' : k < N := by omega
    refine (H16.seq 1 rfl (fun _ => rfl)).get1 k rfl (by omega) _ rfl ?_
    refine (H16.seq 2 rfl (fun _ => rfl)).get1 k rfl (by omega) _ rfl ?_
    have e1 : d0[k]'(by omega) ^^^ d1[k]'(by omega) = (sumR d0 d1)[k]'(by omega) := by
      have := sum_at (a := d0) (b := d1) (by omega) (show k < d0.length by omega)
      rw [List.getElem?_eq_getElem (by omega)] at this
      exact (Option.some.inj this).symm
    rw [xor_u8, e1]
    refine H16.set C_ok 3 rfl (fun _ => rfl) rfl k rfl (by simp; omega) _ rfl rfl rfl fun h17 H17 => ⟨trivial, ?_⟩
    refine ⟨k + 1, by rw [wrap_small _ (by omega) (by omega)]; rfl, ⟨by omega, ?_⟩, by omega⟩
    rw [← fill_set (by omega) (show k < (sumR d0 d1).length by omega)]
    exact H17
  have hkN : k = N := by omega
  subst hkN
  rw [List.take_of_length_le (by omega), List.drop_of_length_le (by omega), List.append_nil] at H16
  have D0 := B0 d0 (by omega)
  have D1 := B0 d1 (by omega)
  have DS := B0 (sumR d0 d1) (by omega)
  have DZ := B0 (zeroB k) (by omega)
  refine ⟨p, (H16.box 0 rfl).cells0 _ rfl, (new_ok D0 u h16 (H16.seq 1 rfl (fun _ => rfl)) (H16.own 1 rfl).cap).mono ?_⟩
  rintro _ h18 ⟨b1, m1, rfl, R18⟩
  have H18 := H16.comp R18
  refine ⟨(some b1, 0), rfl, p, (H18.box 0 rfl).cells0 _ rfl, (new_ok D1 v h18 (H18.seq 2 rfl (fun _ => rfl)) (H18.own 2 rfl).cap).mono ?_⟩
  rintro _ h19 ⟨b2, m2, rfl, R19⟩
  have H19 := H18.comp R19
  refine ⟨(some b2, 0), rfl, p, (H19.box 0 rfl).cells0 _ rfl, (new_ok DS o h19 (H19.seq 3 rfl (fun _ => rfl)) (H19.own 3 rfl).cap).mono ?_⟩
  rintro _ h20 ⟨b3, m3, rfl, R20⟩
  have H20 := H19.comp R20
  have c20 := H20.box 0 rfl
  refine ⟨(some b3, 0), rfl, join_in ⟨p, c20.cells0 _ rfl, p.1, c20.cell0 rfl, p.2.2, c20.cell rfl, ?_⟩⟩
  rw [eKw]
  refine H20.make C_ok u8v eU8 (by decide) 0 rfl rfl k k rfl rfl (Nat.le_refl _) (by omega) fun z h21 _ _ H21 => ?_
  have c21 := H21.box 0 rfl
  refine ⟨⟨c21.cell rfl, c21.cell0 rfl, c21.cell0 rfl, c21.cell rfl, c21.cell rfl, trivial⟩, (new_ok DZ z h21 (H21.seq 10 rfl (fun _ => rfl)) (H21.own 10 rfl).cap).mono ?_⟩
  rintro _ h22 ⟨b4, m4, rfl, R22⟩
  have H22 := H21.comp R22
  have c22 := H22.box 0 rfl
  refine ⟨(some b4, 0), rfl, ⟨c22.cell rfl, c22.cell0 rfl, trivial⟩, ?_⟩
  refine join_in ?_
  refine br_ne (fun e => absurd rfl e) fun _ => br_ne (fun e => absurd rfl e) fun _ => br_ne (fun e => absurd rfl e) fun _ => br_ne (fun e => absurd rfl e) fun _ => ?_
  refine br_b (fun e => by cases e) fun _ => br_b (fun e => by cases e) fun _ => br_b (fun e => by cases e) fun _ => br_b (fun e => by cases e) fun _ => ?_
  refine (within_spec id 65536 h22 (by decide) (by decide)).mono ?_
  rintro _ h25 ⟨rfl, rfl⟩
  have hid : mayID (id % 65536) = true := by simp [mayID]; omega
  obtain ⟨i, hi⟩ : ∃ i, i = id % 65536 := ⟨_, rfl⟩
  rw [← hi] at hid ⊢
  refine ⟨i, rfl, ?_⟩
  refine (D0.symbol b1 i h25 ⟨m1, H22.box 5 rfl, H22.rd2 4 rfl⟩).mono ?_
  rintro _ h26 ⟨r1, rfl, R26⟩
  have H26 := H22.comp R26
  refine ⟨r1, rfl, (D1.symbol b2 i h26 ⟨m2, H26.box 7 rfl, H26.rd2 6 rfl⟩).mono ?_⟩
  rintro _ h27 ⟨r2, rfl, R27⟩
  have H27 := H26.comp R27
  refine ⟨r2, rfl, (DS.symbol b3 i h27 ⟨m3, H27.box 9 rfl, H27.rd2 8 rfl⟩).mono ?_⟩
  rintro _ h28 ⟨r3, rfl, R28⟩
  have H28 := H27.comp R28
  rw [hid, if_pos rfl, if_pos rfl, if_pos rfl] at H28
  have y1 := D0.symLen i
  have y2 := D1.symLen i
  have y3 := DS.symLen i
  have e3 := sym_sum D0 D1 DS i
  have z1 := (H28.own 13 rfl).len
  have z2 := (H28.own 14 rfl).len
  have z3 := (H28.own 15 rfl).len
  have c28 := H28.box 0 rfl
  refine ⟨r3, rfl, join_in ?_⟩
  refine ⟨p.2.2, c28.cell rfl, br_ne (fun e => absurd (by rw [z1, y1, hw]) e) fun _ => ⟨p.2.2, c28.cell rfl, br_ne (fun e => absurd (by rw [z2, y2, hw]) e) fun _ => ⟨p.2.2, c28.cell rfl, br_ne (fun e => absurd (by rw [z3, y3, hw]) e) fun _ => ?_⟩⟩⟩
  refine loop_inv (fun j : Nat => (j : Int)) (fun j h' => h' = h28 ∧ j ≤ w) (fun j => w - j) 0 rfl ⟨rfl, by omega⟩ ?_
  rintro j h30 ⟨rfl, hj⟩
  refine br_dec (fun e => ?_) (fun _ => ?_)
  · have hj' : j < w := by omega
    refine (H28.seq 15 rfl (fun _ => rfl)).get1 j rfl (by omega) _ rfl ?_
    refine (H28.seq 13 rfl (fun _ => rfl)).get1 j rfl (by omega) _ rfl ?_
    refine (H28.seq 14 rfl (fun _ => rfl)).get1 j rfl (by omega) _ rfl ?_
    rw [xor_u8]
    have e4 := sum_at (show (symB w (midP p s d0) (colsI (K + Hh) s i)).length = (symB w (midP p s d1) (colsI (K + Hh) s i)).length by omega) (show j < _ by omega)
    rw [← e3, List.getElem?_eq_getElem (by omega)] at e4
    rw [Option.some.inj e4]
    refine br_ne (fun e => absurd rfl e) fun _ => ?_
    exact ⟨j + 1, by rw [wrap_small _ (by omega) (by omega)]; rfl, ⟨rfl, by omega⟩, by omega⟩
  refine ⟨p.2.2, c28.cell rfl, ?_⟩
  have sz := DZ.symZero i
  refine ⟨?_, ?_⟩
  · refine (DZ.symbol b4 i h30 ⟨m4, H28.box 12 rfl, H28.rd2 11 rfl⟩).mono ?_
    rintro _ h31 ⟨r4, rfl, R31⟩
    have H31 := H28.comp R31
    rw [hid, if_pos rfl, sz] at H31
    refine ⟨r4, rfl, ⟨(H31.box 0 rfl).cell rfl, trivial⟩, ?_⟩
    refine H31.make C_ok u8v eU8 (by decide) 0 rfl rfl w w hw hw (Nat.le_refl _) (by omega) fun o2 h32 _ _ H32 => ⟨trivial, ?_⟩
    refine (sameB_spec _ _ _ _ h32 (H32.seq 16 rfl (fun _ => rfl)) (H32.seq 17 rfl (fun _ => rfl)) (by simp [zeroB]; omega)).mono ?_
    rintro _ h33 ⟨rfl, rfl⟩
    refine ⟨_, rfl, trivial, br_b (fun _ => ?_) (fun e => absurd (decide_eq_true (show zeroB w = List.replicate w 0 from rfl)) (by rw [e]; decide))⟩
    refine (wakes_spec h33).mono ?_
    rintro _ h34 ⟨rfl, R34⟩
    exact ⟨_, rfl, trivial, rfl, (H32.comp R34).pres⟩
  · refine H28.make C_ok u8v eU8 (by decide) 0 rfl rfl w w hw hw (Nat.le_refl _) (by omega) fun o2 h31 _ _ H31 => ⟨trivial, ?_⟩
    refine (DZ.symbol b4 i h31 ⟨m4, H31.box 12 rfl, H31.rd2 11 rfl⟩).mono ?_
    rintro _ h32 ⟨r4, rfl, R32⟩
    have H32 := H31.comp R32
    rw [hid, if_pos rfl, sz] at H32
    refine ⟨r4, rfl, trivial, ?_⟩
    refine (sameB_spec _ _ _ _ h32 (H32.seq 17 rfl (fun _ => rfl)) (H32.seq 16 rfl (fun _ => rfl)) (by simp [zeroB]; omega)).mono ?_
    rintro _ h33 ⟨rfl, rfl⟩
    refine ⟨_, rfl, trivial, br_b (fun _ => ?_) (fun e => absurd (decide_eq_true (show zeroB w = List.replicate w 0 from rfl)) (by rw [e]; decide))⟩
    refine (wakes_spec h33).mono ?_
    rintro _ h34 ⟨rfl, R34⟩
    exact ⟨_, rfl, trivial, rfl, (H32.comp R34).pres⟩
end Go.Proofs.Ytgcbahhnnphejaa

namespace Go.Proofs.Ytgcbahhnnphejaa
open Go Go.Vc Go.Proofs Wl
set_option maxRecDepth 100000
set_option maxHeartbeats 4000000 in
theorem efirst_spec (a b c seed : Int) (x : Sl) (lx : Row) (id : Int) (h : Heap) (hx : Rd h x 1 u8v lx) :
    Meets Try.prog wellspringlaw11_EncodeFirst_id #[.int .i64 a, .int .i64 b, .int .i64 c, .int .u64 seed, .slice x.ptr x.len x.cap, .int .i64 id] h fun v h' => v = .bool true ∧ Pres (fun b => b < h.size) h h' := by
  refine wellspringlaw11_EncodeFirst_run a b c seed x id ?_
  unfold wellspringlaw11_EncodeFirst_m
  refine (params_spec a b c h).mono ?_
  rintro v h1 ⟨rfl, H1⟩
  obtain ⟨p, hp⟩ : ∃ p, p = playP a b c := ⟨_, rfl⟩
  have hmay : mayP p = true := by rw [hp]; exact playP_may a b c
  rw [← hp]
  have hpp := (mayP_iff p).1 hmay
  refine ⟨p, rfl, ?_⟩
  refine H1.alloc C_ok rfl fun q h2 H2 => ?_
  refine H2.storeAll C_ok 0 rfl rfl [.int .i64 p.1, .int .i64 p.2.1, .int .i64 p.2.2] rfl rfl rfl rfl fun h3 H3 => ?_
  refine ⟨p, (H3.box 0 rfl).cells0 _ rfl, (seed_spec p seed h3).mono ?_⟩
  rintro v h4 ⟨s, rfl, R4⟩
  have H4 : Sp h h4 [BoxA q T_api_Params [.int .i64 p.1, .int .i64 p.2.1, .int .i64 p.2.2]] := H3.comp R4
  obtain ⟨K, hK⟩ : ∃ K : Nat, p.1 = K := ⟨p.1.toNat, by omega⟩
  obtain ⟨Hh, hH⟩ : ∃ H : Nat, p.2.1 = H := ⟨p.2.1.toNat, by omega⟩
  obtain ⟨w, hw⟩ : ∃ w : Nat, p.2.2 = w := ⟨p.2.2.toNat, by omega⟩
  have hKw : K * w ≤ 16 * 24 := Nat.mul_le_mul (by omega) (by omega)
  have eKw : IntKind.wrap .i64 (p.1 * p.2.2) = ((K * w : Nat) : Int) := by rw [hK, hw, ← Int.natCast_mul, wrap_small _ (by omega) (by omega)]
  refine ⟨s, rfl, p.1, (H4.box 0 rfl).cell0 rfl, p.2.2, (H4.box 0 rfl).cell rfl, ?_⟩
  rw [eKw]
  refine (data_spec x lx (K * w) h4 (Seq.up hx H4.pres) (by omega)).mono ?_
  rintro v h5 ⟨u, rfl, R5⟩
  have H5 := H4.comp R5
  obtain ⟨d, hd⟩ : ∃ d, d = dataB lx (K * w) := ⟨_, rfl⟩
  have hdl : d.length = K * w := by rw [hd, dataB_len]
  rw [← hd] at H5
  have hul := (H5.own 1 rfl).len
  have huc := (H5.own 1 rfl).cap
  refine ⟨u, rfl, p, (H5.box 0 rfl).cells0 _ rfl, ?_⟩
  by_cases hf : fullI p s (firstI p) = true
  case neg =>
    have he : newE p s d.length = 8 := by rw [newE, hmay, hdl, hK, hw, decide_eq_true (by rw [Int.natCast_mul]), Bool.eq_false_iff.2 hf]; rfl
    refine (new_spec p s u d h5 (H5.seq 1 rfl (fun _ => rfl)) huc).mono ?_
    rintro v h6 ⟨_, hh⟩
    obtain ⟨rfl, R6⟩ := hh (by rw [he]; decide)
    have H6 := H5.comp R6
    rw [he]
    refine ⟨(none, 8), rfl, br_ne (fun _ => ?_) (fun e => absurd e (by decide))⟩
    refine br_eq (fun _ => ?_) (fun e => absurd rfl e)
    refine ⟨p, (H6.box 0 rfl).cells0 _ rfl, (right_spec p s h6).mono ?_⟩
    rintro v h7 ⟨rfl, R7⟩
    refine ⟨_, rfl, br_not (fun _ => ?_) (fun e => absurd e hf)⟩
    refine (wakes_spec h7).mono ?_
    rintro _ h8 ⟨rfl, R8⟩
    exact ⟨_, rfl, rfl, ((H6.comp R7).comp R8).pres⟩
  have B : BlkOk p s d K Hh w (K + Hh) := ⟨hmay, hf, hK, hH, hw, rfl, by omega, by omega, by omega, by omega, by omega, by omega, hdl⟩
  obtain ⟨n, hn⟩ : ∃ n, n = K + Hh := ⟨_, rfl⟩
  rw [← hn] at B
  have hcn := B.colsN
  obtain ⟨hml, hme⟩ := B.midLen
  refine (new_ok B u h5 (H5.seq 1 rfl (fun _ => rfl)) huc).mono ?_
  rintro v h6 ⟨b, m, rfl, R6⟩
  obtain ⟨M, hM⟩ : ∃ M, M = midP p s d := ⟨_, rfl⟩
  rw [← hM] at hml hme R6
  have H6 : Sp h h6 [BoxA q T_api_Params [.int .i64 p.1, .int .i64 p.2.1, .int .i64 p.2.2], OwnA T_uint8 u 1 u8v d, RowsA T_sl_uint8 m 1 u8v M, BoxA b T_encode_Block (blkC p s m)] := H5.comp R6
  have blk : ∀ {h' : Heap} {As : List HP}, Sp h h' (BoxA q T_api_Params [.int .i64 p.1, .int .i64 p.2.1, .int .i64 p.2.2] :: OwnA T_uint8 u 1 u8v d :: RowsA T_sl_uint8 m 1 u8v M :: BoxA b T_encode_Block (blkC p s m) :: As) → BlkA h' b p s M := fun H => ⟨m, H.box 3 rfl, H.rd2 2 rfl⟩
  have mid : ∀ {h' : Heap}, BlkA h' b p s M → Meets Try.prog encode_Block_Mid_id #[.pointer (some b)] h' fun v h2 => ∃ (r : Sl) (rs : List Sl), v = .slice r.ptr r.len r.cap ∧ rs.length = M.length ∧ Sp h' h2 (matA r rs M) := fun {h'} hb => mid_spec b p s M w h' hb hme (by omega) (by omega)
  refine ⟨(some b, 0), rfl, br_ne (fun e => absurd rfl e) fun _ => join_in ?_⟩
  refine br_b (fun e => by cases e) fun _ => ?_
  refine ⟨p.1, (H6.box 0 rfl).cell0 rfl, p.2.1, (H6.box 0 rfl).cell rfl, (mid (blk H6)).mono ?_⟩
  rintro v h9 ⟨r, rs, rfl, hrs, R9⟩
  have H9 := H6.up R9.pres
  have hrl := (R9.own 0 rfl).len
  refine ⟨r, rfl, ⟨(H9.box 0 rfl).cell rfl, (H9.box 0 rfl).cell0 rfl, trivial⟩, ?_⟩
  dsimp only
  rw [wrap_small (p.1 + p.2.1) (by omega) (by omega)]
  refine br_ne (fun e => absurd (show (r.len : Int) = p.1 + p.2.1 by omega) e) fun _ => ?_
  refine loop_inv (fun k : Nat => (k : Int)) (fun k h' => k ≤ K ∧ Sp h h' [BoxA q T_api_Params [.int .i64 p.1, .int .i64 p.2.1, .int .i64 p.2.2], OwnA T_uint8 u 1 u8v d, RowsA T_sl_uint8 m 1 u8v M, BoxA b T_encode_Block (blkC p s m)]) (fun k => K - k) 0 rfl ⟨by omega, H9⟩ ?_
  rintro k h11 ⟨hk, H11⟩
  have c11 := H11.box 0 rfl
  refine ⟨p.1, c11.cell0 rfl, br_dec (fun e => ?_) (fun _ => ?_)⟩
  · have hk' : k < K := by omega
    have m1 : (k + 1) * w ≤ K * w := Nat.mul_le_mul_right w hk'
    have m2 : k * w ≤ (k + 1) * w := Nat.mul_le_mul_right w (by omega)
    refine ⟨p.2.2, c11.cell rfl, p.2.2, c11.cell rfl, ?_⟩
    rw [wrap_small ((k : Int) + 1) (by omega) (by omega)]
    have e5 : (k : Int) * p.2.2 = ((k * w : Nat) : Int) := by rw [hw, Int.natCast_mul]
    have e6 : ((k : Int) + 1) * p.2.2 = (((k + 1) * w : Nat) : Int) := by rw [hw, Int.natCast_mul]; rfl
    rw [e5, e6, i64_of_nat _ (by omega), i64_of_nat _ (by omega), Int.toNat_natCast, Int.toNat_natCast]
    refine ⟨⟨Int.natCast_nonneg _, Int.ofNat_le.2 m2, Int.ofNat_le.2 (by omega)⟩, ?_⟩
    have hs := symbol_spec b p s (k : Int) M n w h11 (blk H11) hmay hw hcn hme hml
    rw [if_pos (by simp [mayID]; omega), hM, B.symFirst hk'] at hs
    refine hs.mono ?_
    rintro v h12 ⟨y, rfl, R12⟩
    have H12 := H11.comp R12
    have c12 := H12.box 0 rfl
    refine ⟨y, rfl, ⟨c12.cell rfl, c12.cell rfl, trivial⟩, ?_⟩
    have hpl := pcL_len (l := d) (w := w) (i := k) (by omega)
    refine (sameB_spec y (pcOf u w k) _ _ h12 (H12.seq 4 rfl (fun _ => rfl)) ((H12.seq 1 rfl (fun _ => rfl)).piece huc w k (by omega)) (by omega)).mono ?_
    rintro v h13 ⟨rfl, rfl⟩
    rw [decide_eq_true rfl]
    refine ⟨_, rfl, ⟨c12.cell rfl, c12.cell rfl, trivial⟩, br_not (fun e => by cases e) fun _ => ?_⟩
    exact ⟨k + 1, rfl, ⟨by omega, H12.del 4⟩, by omega⟩
  refine (gfNew_spec h11).mono ?_
  rintro v h14 ⟨f, rfl, R14⟩
  have H14 := H11.comp R14
  refine ⟨some f, rfl, p, (H14.box 0 rfl).cells0 _ rfl, (pre_Rows_spec p h14).mono ?_⟩
  rintro v h15 ⟨ra, rfl, R15⟩
  rw [if_pos hmay, hK, hH, Int.toNat_natCast, Int.toNat_natCast] at R15
  have H15 := H14.comp R15
  refine ⟨ra, rfl, (mid (blk H15)).mono ?_⟩
  rintro v h16 ⟨r16, rs16, rfl, hrs16, R16⟩
  have H16 := H15.up R16.pres
  have hal : (aheadRows K Hh).length = Hh := by simp [aheadRows]
  have hae : evenB n (aheadRows K Hh) := by rw [hn]; exact ahead_even K Hh
  refine ⟨r16, rfl, (mul_mat_spec f ra r16 (aheadRows K Hh) M n w h16 (H16.box 4 rfl) (H16.rd2 5 rfl) (R16.mat hrs16 (fun _ => rfl)) hml hae hme (by omega) (by omega) (by omega) (by omega) (by omega)).mono ?_⟩
  rintro v h17 ⟨r17, rfl, R17⟩
  have H17 := H16.comp R17
  have hmull : (mulB w n (aheadRows K Hh) M).length = Hh := by simp [mulB, hal]
  have hr17 := (H17.rd2 6 rfl).len
  have c17 := H17.box 0 rfl
  refine ⟨(r17, true), rfl, join_in (br_not (fun e => by cases e) fun _ => ⟨p.2.1, c17.cell rfl, br_ne (fun e => absurd (show (r17.len : Int) = p.2.1 by omega) e) fun _ => ?_⟩)⟩
  refine loop_inv (fun k : Nat => (k : Int)) (fun k h' => k ≤ Hh ∧ Sp h h' [BoxA q T_api_Params [.int .i64 p.1, .int .i64 p.2.1, .int .i64 p.2.2], OwnA T_uint8 u 1 u8v d, RowsA T_sl_uint8 m 1 u8v M, BoxA b T_encode_Block (blkC p s m), BoxA f T_gf_Field fieldCells, RowsA T_sl_uint8 ra 1 u8v (aheadRows K Hh), RowsA T_sl_uint8 r17 1 u8v (mulB w n (aheadRows K Hh) M)]) (fun k => Hh - k) 0 rfl ⟨by omega, H17⟩ ?_
  rintro j h19 ⟨hj, H19⟩
  dsimp only
  refine br_dec (fun e => ?_) (fun _ => ?_)
  · have hj' : j < Hh := by omega
    refine (H19.rd2 6 rfl).get j rfl (by omega) fun ry hry => ?_
    have ez : (mulB w n (aheadRows K Hh) M)[j]'(by omega) = zeroB w := by
      simp only [mulB, List.getElem_map, aheadRows, List.getElem_range]
      rw [hM]; exact B.low hj'
    rw [ez] at hry
    refine ⟨p.2.2, (H19.box 0 rfl).cell rfl, ?_⟩
    refine (Sp.refl h19).make C_ok u8v eU8 (by decide) 0 rfl rfl w w hw hw (Nat.le_refl _) (by omega) fun z h20 _ _ Q20 => ?_
    refine (sameB_spec ry z _ _ h20 (Seq.up hry Q20.pres) (Q20.seq 0 rfl (fun _ => rfl)) (by simp [zeroB]; omega)).mono ?_
    rintro v h21 ⟨rfl, rfl⟩
    refine ⟨_, rfl, br_not (fun e => absurd (decide_eq_true (show zeroB w = List.replicate w 0 from rfl)) (by rw [e]; decide)) fun _ => ?_⟩
    exact ⟨j + 1, by rw [wrap_small _ (by omega) (by omega)]; rfl, ⟨by omega, H19.up Q20.pres⟩, by omega⟩
  refine (within_spec id 65536 h19 (by decide) (by decide)).mono ?_
  rintro _ h22 ⟨rfl, rfl⟩
  have hid : mayID (id % 65536) = true := by simp [mayID]; omega
  obtain ⟨i, hi⟩ : ∃ i, i = id % 65536 := ⟨_, rfl⟩
  have hi0 : 0 ≤ i ∧ i < 65536 := by omega
  rw [← hi] at hid ⊢
  refine ⟨i, rfl, p, (H19.box 0 rfl).cells0 _ rfl, (row_spec p s i h22).mono ?_⟩
  rintro _ h23 ⟨rr, rfl, R23, _⟩
  rw [hmay, hid, Bool.and_self, if_pos rfl, hcn] at R23
  have H23 := H19.comp R23
  refine ⟨rr, rfl, ?_⟩
  refine H23.lit C_ok slv eSlU8 rfl [rr] rfl (show 1 * 1 ≤ 2 ^ 20 by decide) rfl fun s24 h24 H24 => ?_
  refine (mid (blk H24)).mono ?_
  rintro v h25 ⟨r25, rs25, rfl, hrs25, R25⟩
  have H25 := H24.up R25.pres
  have hA : Rd2 h25 s24 1 u8v [rowI n s i] := by
    refine ⟨[rr], H25.seq 8 rfl (fun _ => rfl), rfl, fun j r l h1 h2 => ?_⟩
    cases j with
    | zero => simp at h1 h2; subst h1; subst h2; exact H25.seq 7 rfl (fun _ => rfl)
    | succ j => simp at h1
  refine ⟨r25, rfl, (mul_mat_spec f s24 r25 [rowI n s i] M n w h25 (H25.box 4 rfl) hA (R25.mat hrs25 (fun _ => rfl)) hml (fun r hr => by rw [List.mem_singleton.1 hr]; exact rowI_len _ _ _) hme (by omega) (by omega) (by omega) (by simp) (by simp)).mono ?_⟩
  rintro v h26 ⟨r26, rfl, R26⟩
  have H26 := H25.comp R26
  have e26 : mulB w n [rowI n s i] M = [symB w M (colsI n s i)] := by rw [hM, B.sym]; rfl
  rw [e26] at H26
  have hr26 := (H26.rd2 9 rfl).len
  refine ⟨(r26, true), rfl, br_b (fun _ => ?_) (fun e => by cases e)⟩
  refine br_eq (fun _ => ?_) (fun e => absurd (show (r26.len : Int) = 1 by rw [hr26]; rfl) e)
  obtain ⟨rs26, hq26⟩ := H26.rd2 9 rfl
  refine hq26.getA 0 rfl (by simp) fun a42 x43 hc42 hs43 _ => ?_
  have hs := symbol_spec b p s i M n w h26 (blk H26) hmay hw hcn hme hml
  rw [if_pos hid] at hs
  refine hs.mono ?_
  rintro v h27 ⟨r44, rfl, R27⟩
  have H27 := H26.comp R27
  refine ⟨r44, rfl, ⟨held_up hc42 R27.pres, trivial⟩, ?_⟩
  have hsl : (symB w M (colsI n s i)).length = w := by rw [hM]; exact B.symLen i
  refine (sameB_spec x43 r44 (symB w M (colsI n s i)) _ h27 (Seq.up (show Rd h26 x43 1 u8v (symB w M (colsI n s i)) from hs43) R27.pres) (H27.seq 10 rfl (fun _ => rfl)) (by omega)).mono ?_
  rintro v h28 ⟨rfl, rfl⟩
  rw [decide_eq_true rfl]
  refine ⟨_, rfl, trivial, br_b (fun _ => ?_) (fun e => by cases e)⟩
  have hs := symbol_spec b p s (IntKind.wrap .i64 (-1 - i)) M n w h28 (blk H27) hmay hw hcn hme hml
  have hneg : mayID (IntKind.wrap .i64 (-1 - i)) = false := by
    have g1 : (-9223372036854775808 : Int) ≤ -1 - i := by omega
    have g2 : (-1 : Int) - i ≤ 9223372036854775807 := by omega
    have g3 : ¬ (0 ≤ -1 - i) := by omega
    rw [Go.Vc.wrap_small _ g1 g2, mayID, decide_eq_false g3]; rfl
  rw [hneg] at hs
  refine hs.mono ?_
  rintro v h29 ⟨r46, rfl, R29⟩
  have H29 := H27.comp R29
  have hr46 := (R29.own 0 rfl).len
  refine ⟨r46, rfl, trivial, br_eq (fun _ => ?_) (fun e => absurd (show (r46.len : Int) = 0 by rw [hr46]; rfl) e)⟩
  refine (wakes_spec h29).mono ?_
  rintro _ h30 ⟨rfl, R30⟩
  exact ⟨_, rfl, trivial, rfl, (H29.comp R30).pres⟩
end Go.Proofs.Ytgcbahhnnphejaa

namespace Go.Proofs.Ytgcbahhnnphejaa
open Go Go.Vc Go.Proofs Wl
set_option maxRecDepth 100000
theorem copyB_spec (s : Sl) (l : Row) (h : Heap) (hs : Rd h s 1 u8v l) (hl : l.length ≤ 2 ^ 30) : Meets Try.prog wellspringkeep_Copy_byte_id #[.slice s.ptr s.len s.cap] h fun v h' => ∃ r : Sl, v = .slice r.ptr r.len r.cap ∧ Sp h h' [OwnA T_uint8 r 1 u8v l] := by
  refine wellspringkeep_Copy_byte_run s ?_
  unfold wellspringkeep_Copy_byte_m
  have hsl := hs.len
  rw [Go.Vc.wrap_small _ (by omega) (by omega)]
  refine (Sp.refl h).make C_ok u8v eU8 (by decide) 0 rfl rfl 0 (s.len + 2) rfl (by omega) (by omega) (by omega) fun o h1 _ _ H1 => ?_
  refine H1.append C_ok 0 rfl eU8 e_u8sl rfl (by decide) (fun _ => rfl) (Seq.up hs H1.pres) one_u8 (by simp; omega) fun r h2 H2 => ?_
  exact ⟨r, rfl, H2⟩
theorem copiesB_spec (s : Sl) (M : Mat) (h : Heap) (hs : Rd2 h s 1 u8v M) (hl : M.length ≤ 2 ^ 30) (hr : ∀ r ∈ M, r.length ≤ 2 ^ 30) : Meets Try.prog wellspringkeep_Copies_byte_id #[.slice s.ptr s.len s.cap] h fun v h' => ∃ r : Sl, v = .slice r.ptr r.len r.cap ∧ Sp h h' [RowsA T_sl_uint8 r 1 u8v M] := by
  refine wellspringkeep_Copies_byte_run s ?_
  unfold wellspringkeep_Copies_byte_m
  have hsl := hs.len
  refine loop_inv (fun t : Sl × Nat => (t.1, (t.2 : Int))) (fun t h' => t.2 ≤ M.length ∧ Sp h h' [RowsA T_sl_uint8 t.1 1 u8v (M.take t.2)]) (fun t => M.length - t.2) (⟨none, 0, 0⟩, 0) rfl ⟨by simp, (Sp.refl h).rows0 T_sl_uint8 1 u8v⟩ ?_
  rintro ⟨o, k⟩ h1 ⟨hk, H1⟩
  dsimp only at *
  refine br_dec (fun e => ?_) (fun e => ?_)
  · have hk' : k < M.length := by omega
    refine (hs.up H1.pres).get k rfl hk' fun r hrd => ?_
    refine (copyB_spec r _ h1 hrd (hr _ (List.getElem_mem _))).mono ?_
    rintro v h2 ⟨c, rfl, R2⟩
    have H2 := (H1.comp R2).freeze 1 rfl (fun _ => rfl)
    refine ⟨c, rfl, ?_⟩
    refine H2.rowPush C_ok 0 1 (by decide) rfl rfl eSlU8 (by simp; omega) fun s' h3 H3 => ?_
    refine ⟨(s', k + 1), by dsimp only; rw [Go.Vc.wrap_small _ (by omega) (by omega)]; rfl, ⟨by dsimp only; omega, ?_⟩, by dsimp only; omega⟩
    dsimp only
    rw [take_snoc _ _ hk']
    exact H3.del 1
  · rw [List.take_of_length_le (by omega)] at H1
    exact ⟨o, rfl, H1⟩
theorem inc_u8 (x : UInt8) : IntKind.wrap .u8 ((x.toNat : Int) + 1) = (((x + 1 : UInt8).toNat : Nat) : Int) := by
  have h1 : IntKind.wrap .u8 ((x.toNat : Int) + 1) = ((x.toNat : Int) + 1) % 256 := by simp [IntKind.wrap, IntKind.signed, IntKind.bits]
  rw [h1, UInt8.toNat_add, show (1 : UInt8).toNat = 1 from rfl]
  omega
/-- Whatever rows one holds: each place one more. -/
theorem inc_loop {B : Blocks} {h0 : Heap} {a : Sl} {w : Nat} {rs : List Sl} {M : Mat} (hl : rs.length = M.length) (hw : w ≤ 64) (hM : evenB w M) (hML : M.length ≤ 2 ^ 20) {h : Heap} (H : SpB B h0 h (matA a rs M)) {K : Heap → Prop}
    (hk : ∀ h' M', SpB B h0 h' (matA a rs M') → K h') :
  LoopM (σ := Int) (fun s39 K4 h31 =>
  Br (decide (s39 < ((a.len : Nat) : Int)))
  (∃ a40 : Addr, (a.ptr = some a40 ∧ 0 ≤ s39 ∧ s39 < ((a.len : Nat) : Int)) ∧
  ∃ x41 : Sl, cellOf h31 (a40.add (s39.toNat * 1)) = some (.slice x41.ptr x41.len x41.cap) ∧
  LoopM (σ := Int) (fun s42 K5 h32 =>
  Br (decide (s42 < ((x41.len : Nat) : Int)))
  (∃ a43 : Addr, (x41.ptr = some a43 ∧ 0 ≤ s42 ∧ s42 < ((x41.len : Nat) : Int)) ∧
  ∃ x44 : Int, cellOf h32 (a43.add (s42.toNat * 1)) = some (.int .u8 x44) ∧
  ∃ a45 : Addr, (x41.ptr = some a45 ∧ 0 ≤ s42 ∧ s42 < ((x41.len : Nat) : Int)) ∧
  Runs Try.prog (Instr.storeAt T_uint8 (.pointer (some (a45.add (s42.toNat * 1)))) (.int .u8 (IntKind.wrap .u8 (x44 + (1 : Int))))) h32 fun _ h33 =>
  K5 (IntKind.wrap .i64 (s42 + (1 : Int))) h33)
  (K4 (IntKind.wrap .i64 (s39 + (1 : Int))) h32)) (0 : Int) h31)
  (K h31)) (0 : Int) h := by
  have hal : a.len = M.length := by rw [(H.own 0 rfl).len, hl]
  refine loop_inv (fun t : Nat × Mat => (t.1 : Int)) (fun t h' => t.1 ≤ M.length ∧ t.2.length = M.length ∧ evenB w t.2 ∧ SpB B h0 h' (matA a rs t.2)) (fun t => M.length - t.1) (0, M) rfl ⟨by simp, rfl, hM, H⟩ ?_
  rintro ⟨k, M1⟩ h1 ⟨hk1, hl1, he1, H1⟩
  dsimp only at *
  refine br_dec (fun e => ?_) (fun e => hk h1 M1 H1)
  have hk' : k < M.length := by omega
  refine (H1.seq 0 rfl (fun _ => rfl)).getS k rfl (by omega) fun _ _ _ => ?_
  have hxl : (rs[k]'(by omega)).len = w := by
    rw [(H1.own (k + 1) (mat_row (by omega) k (by omega))).len]; exact he1 _ (List.getElem_mem _)
  refine loop_inv (fun t : Nat × Mat => (t.1 : Int)) (fun t h' => t.1 ≤ w ∧ t.2.length = M.length ∧ evenB w t.2 ∧ SpB B h0 h' (matA a rs t.2)) (fun t => w - t.1) (0, M1) rfl ⟨by simp, hl1, he1, H1⟩ ?_
  rintro ⟨j, M2⟩ h2 ⟨hj, hl2, he2, H2⟩
  dsimp only at *
  have hle : rs.length = M2.length := by omega
  have gk := mat_row (a := a) hle k (by omega)
  have hrl : (M2[k]'(by omega)).length = w := he2 _ (List.getElem_mem _)
  refine br_dec (fun e2 => ?_) (fun e2 => ?_)
  · have hj' : j < w := by omega
    refine (H2.seq (k + 1) gk (fun _ => rfl)).get1 j rfl (by omega) _ rfl ?_
    rw [inc_u8]
    refine H2.set C_ok (k + 1) gk (fun _ => rfl) rfl j rfl (by omega) _ rfl rfl rfl fun h3 H3 => ?_
    refine ⟨(j + 1, M2.set k ((M2[k]'(by omega)).set j ((M2[k]'(by omega))[j]'(by omega) + 1))), by dsimp only; rw [Go.Vc.wrap_small _ (by omega) (by omega)]; rfl, ⟨by dsimp only; omega, by dsimp only; simp; omega, ?_, ?_⟩, by dsimp only; omega⟩
    · exact even_set he2 (by simp; exact hrl)
    · show SpB B h0 h3 (OwnA T_sl_uint8 a 1 slv rs :: ownRows T_uint8 1 u8v rs (M2.set k _))
      rw [← ownRows_set' hle k (by omega)]
      exact H3
  · exact ⟨(k + 1, M2), by dsimp only; rw [Go.Vc.wrap_small _ (by omega) (by omega)]; rfl, ⟨by dsimp only; omega, hl2, he2, H2⟩, by dsimp only; omega⟩
theorem newE_len {p : Pm} {s : Int} {l K w : Nat} (hK : p.1 = K) (hw : p.2.2 = w) (h : l ≠ K * w) : newE p s l = 1 := by
  rw [newE, decide_eq_false (by rw [hK, hw, ← Int.natCast_mul]; intro e; exact h (Int.ofNat.inj e)), Bool.and_false]; rfl
set_option maxHeartbeats 4000000 in
theorem errors_spec (a b c seed : Int) (x : Sl) (lx : Row) (id : Int) (h : Heap) (hx : Rd h x 1 u8v lx) :
    Meets Try.prog wellspringlaw11_EncodeErrors_id #[.int .i64 a, .int .i64 b, .int .i64 c, .int .u64 seed, .slice x.ptr x.len x.cap, .int .i64 id] h fun v h' => v = .bool true ∧ Pres (fun b => b < h.size) h h' := by
  refine wellspringlaw11_EncodeErrors_run a b c seed x id ?_
  unfold wellspringlaw11_EncodeErrors_m
  refine (params_spec a b c h).mono ?_
  rintro v h1 ⟨rfl, H1⟩
  obtain ⟨p, hp⟩ : ∃ p, p = playP a b c := ⟨_, rfl⟩
  have hmay : mayP p = true := by rw [hp]; exact playP_may a b c
  rw [← hp]
  have hpp := (mayP_iff p).1 hmay
  refine ⟨p, rfl, ?_⟩
  refine H1.alloc C_ok rfl fun q h2 H2 => ?_
  refine H2.storeAll C_ok 0 rfl rfl [.int .i64 p.1, .int .i64 p.2.1, .int .i64 p.2.2] rfl rfl rfl rfl fun h3 H3 => ?_
  refine ⟨p, (H3.box 0 rfl).cells0 _ rfl, (seed_spec p seed h3).mono ?_⟩
  rintro v h4 ⟨s, rfl, R4⟩
  have H4 : Sp h h4 [BoxA q T_api_Params [.int .i64 p.1, .int .i64 p.2.1, .int .i64 p.2.2]] := H3.comp R4
  obtain ⟨K, hK⟩ : ∃ K : Nat, p.1 = K := ⟨p.1.toNat, by omega⟩
  obtain ⟨Hh, hH⟩ : ∃ H : Nat, p.2.1 = H := ⟨p.2.1.toNat, by omega⟩
  obtain ⟨w, hw⟩ : ∃ w : Nat, p.2.2 = w := ⟨p.2.2.toNat, by omega⟩
  have hKw : K * w ≤ 16 * 24 := Nat.mul_le_mul (by omega) (by omega)
  have hKw1 : 1 * w ≤ K * w := Nat.mul_le_mul_right w (by omega)
  have eKw : IntKind.wrap .i64 (p.1 * p.2.2) = ((K * w : Nat) : Int) := by rw [hK, hw, ← Int.natCast_mul, Go.Vc.wrap_small _ (by omega) (by omega)]
  refine ⟨s, rfl, p.1, (H4.box 0 rfl).cell0 rfl, p.2.2, (H4.box 0 rfl).cell rfl, ?_⟩
  rw [eKw]
  refine (data_spec x lx (K * w) h4 (Seq.up hx H4.pres) (by omega)).mono ?_
  rintro v h5 ⟨u, rfl, R5⟩
  have H5 := H4.comp R5
  obtain ⟨d, hd⟩ : ∃ d, d = dataB lx (K * w) := ⟨_, rfl⟩
  have hdl : d.length = K * w := by rw [hd, dataB_len]
  rw [← hd] at H5
  have hul := (H5.own 1 rfl).len
  have huc := (H5.own 1 rfl).cap
  refine ⟨u, rfl, join_cut (fun t h' => t = 1 ∧ Sp h h' [BoxA q T_api_Params [.int .i64 p.1, .int .i64 p.2.1, .int .i64 p.2.2], OwnA T_uint8 u 1 u8v d]) ?_ ?_⟩
  · refine ⟨p, (H5.box 0 rfl).cells0 _ rfl, ?_⟩
    have held : ∀ {h' : Heap} {As : List HP}, Sp h h' (BoxA q T_api_Params [.int .i64 p.1, .int .i64 p.2.1, .int .i64 p.2.2] :: As) → Held.ok [(q, (.int .i64 p.1)), (q.add 1, (.int .i64 p.2.1)), (q.add 2, (.int .i64 p.2.2))] h' := fun H =>
      ⟨(H.box 0 rfl).cell0 rfl, (H.box 0 rfl).cell rfl, (H.box 0 rfl).cell rfl, trivial⟩
    have hne : newE p s ([] ++ d ++ [1]).length = 1 := newE_len hK hw (by simp; omega)
    refine ⟨?_, ?_⟩
    · have H5' := H5.nil T_uint8 1 u8v
      refine H5'.append C_ok 2 rfl eU8 e_u8sl rfl (by decide) (fun _ => rfl) (H5'.seq 1 rfl (fun _ => rfl)) one_u8 (by simp; omega) fun s9 h6 H6 => ⟨held H6, ?_⟩
      refine H6.lit C_ok u8v eU8 rfl [1] rfl (show 1 * 1 ≤ 2 ^ 20 by decide) rfl fun s10 h7 H7 => ⟨held H7, ?_⟩
      refine H7.append C_ok 2 rfl eU8 e_u8sl rfl (by decide) (fun _ => rfl) (H7.seq 3 rfl (fun _ => rfl)) one_u8 (by simp; omega) fun s11 h8 H8 => ⟨held H8, ?_⟩
      refine (new_spec p s s11 _ h8 (H8.seq 2 rfl (fun _ => rfl)) (H8.own 2 rfl).cap).mono ?_
      rintro v h9 ⟨_, hh⟩
      obtain ⟨rfl, R9⟩ := hh (by rw [hne]; decide)
      rw [hne]
      exact ⟨(none, 1), rfl, trivial, rfl, ((H8.comp R9).del 3).del 2⟩
    · refine H5.lit C_ok u8v eU8 rfl [1] rfl (show 1 * 1 ≤ 2 ^ 20 by decide) rfl fun s10 h6 H6 => ⟨held H6, ?_⟩
      have H6' := H6.nil T_uint8 1 u8v
      refine H6'.append C_ok 3 rfl eU8 e_u8sl rfl (by decide) (fun _ => rfl) (H6'.seq 1 rfl (fun _ => rfl)) one_u8 (by simp; omega) fun s9 h7 H7 => ⟨held H7, ?_⟩
      refine H7.append C_ok 3 rfl eU8 e_u8sl rfl (by decide) (fun _ => rfl) (H7.seq 2 rfl (fun _ => rfl)) one_u8 (by simp; omega) fun s11 h8 H8 => ⟨held H8, ?_⟩
      refine (new_spec p s s11 _ h8 (H8.seq 3 rfl (fun _ => rfl)) (H8.own 3 rfl).cap).mono ?_
      rintro v h9 ⟨_, hh⟩
      obtain ⟨rfl, R9⟩ := hh (by rw [hne]; decide)
      rw [hne]
      exact ⟨(none, 1), rfl, trivial, rfl, ((H8.comp R9).del 3).del 2⟩
  rintro t h14 ⟨rfl, H14⟩
  refine ⟨p, (H14.box 0 rfl).cells0 _ rfl, ⟨by decide, Int.ofNat_le.2 (show 1 ≤ u.len by omega)⟩, ?_⟩
  have hne1 : newE p s (d.drop 1).length = 1 := newE_len hK hw (by simp; omega)
  refine (new_spec p s ⟨if u.cap = 1 then u.ptr else u.ptr.map (·.add (1 * 1)), u.len - 1, u.cap - 1⟩ (d.drop 1) h14 ((H14.seq 1 rfl (fun _ => rfl)).drop 1 huc) (by dsimp only; omega)).mono ?_
  rintro v h15 ⟨_, hh⟩
  obtain ⟨rfl, R15⟩ := hh (by rw [hne1]; decide)
  have H15 := H14.comp R15
  rw [hne1]
  refine ⟨(none, 1), rfl, trivial, p.1, (H15.box 0 rfl).cell0 rfl, p.2.1, (H15.box 0 rfl).cell rfl, ?_⟩
  have hne2 : newE (p.1, p.2.1, 0) s ([] : Row).length = 1 := by
    have : mayP (p.1, p.2.1, 0) = false := by
      cases hh : mayP (p.1, p.2.1, 0) with
      | false => rfl
      | true => have := (mayP_iff _).1 hh; simp at this
    rw [newE, this]; rfl
  refine (new_spec (p.1, p.2.1, 0) s ⟨none, 0, 0⟩ [] h15 (rd_nil _ _) (by decide)).mono ?_
  rintro v h16 ⟨_, hh⟩
  obtain ⟨rfl, R16⟩ := hh (by rw [hne2]; decide)
  have H16 := H15.comp R16
  rw [hne2]
  refine ⟨(none, 1), rfl, join_in (br_ne (fun e => absurd rfl e) fun _ => br_ne (fun e => absurd rfl e) fun _ => br_ne (fun e => absurd rfl e) fun _ => join_in ?_)⟩
  refine (symbol_nil_spec id h16).mono ?_
  rintro v h18 ⟨rfl, rfl⟩
  refine ⟨⟨none, 0, 0⟩, rfl, br_dec (fun e => absurd e (by decide)) fun _ => (mid_nil_spec h18).mono ?_⟩
  rintro v h19 ⟨rfl, rfl⟩
  refine ⟨⟨none, 0, 0⟩, rfl, br_dec (fun e => absurd e (by decide)) fun _ => ?_⟩
  refine ⟨p, (H16.box 0 rfl).cells0 _ rfl, ?_⟩
  by_cases hf : fullI p s (firstI p) = true
  case neg =>
    have he : newE p s d.length = 8 := by rw [newE, hmay, hdl, hK, hw, decide_eq_true (by rw [Int.natCast_mul]), Bool.eq_false_iff.2 hf]; rfl
    refine (new_spec p s u d h19 (H16.seq 1 rfl (fun _ => rfl)) huc).mono ?_
    rintro v h6 ⟨_, hh⟩
    obtain ⟨rfl, R6⟩ := hh (by rw [he]; decide)
    have H6 := H16.comp R6
    rw [he]
    refine ⟨(none, 8), rfl, br_ne (fun _ => ?_) (fun e => absurd e (by decide))⟩
    refine br_eq (fun _ => ?_) (fun e => absurd rfl e)
    refine ⟨p, (H6.box 0 rfl).cells0 _ rfl, (right_spec p s h6).mono ?_⟩
    rintro v h7 ⟨rfl, R7⟩
    refine ⟨_, rfl, br_not (fun _ => ?_) (fun e => absurd e hf)⟩
    refine (wakes_spec h7).mono ?_
    rintro _ h8 ⟨rfl, R8⟩
    exact ⟨_, rfl, rfl, ((H6.comp R7).comp R8).pres⟩
  have B : BlkOk p s d K Hh w (K + Hh) := ⟨hmay, hf, hK, hH, hw, rfl, by omega, by omega, by omega, by omega, by omega, by omega, hdl⟩
  obtain ⟨n, hn⟩ : ∃ n, n = K + Hh := ⟨_, rfl⟩
  rw [← hn] at B
  have hcn := B.colsN
  obtain ⟨hml, hme⟩ := B.midLen
  refine (new_ok B u h19 (H16.seq 1 rfl (fun _ => rfl)) huc).mono ?_
  rintro v h21 ⟨b, m, rfl, R21⟩
  obtain ⟨M, hM⟩ : ∃ M, M = midP p s d := ⟨_, rfl⟩
  rw [← hM] at hml hme R21
  have H21 : Sp h h21 [BoxA q T_api_Params [.int .i64 p.1, .int .i64 p.2.1, .int .i64 p.2.2], OwnA T_uint8 u 1 u8v d, RowsA T_sl_uint8 m 1 u8v M, BoxA b T_encode_Block (blkC p s m)] := H16.comp R21
  have blk : ∀ {h' : Heap} {As : List HP}, Sp h h' (BoxA q T_api_Params [.int .i64 p.1, .int .i64 p.2.1, .int .i64 p.2.2] :: OwnA T_uint8 u 1 u8v d :: RowsA T_sl_uint8 m 1 u8v M :: BoxA b T_encode_Block (blkC p s m) :: As) → BlkA h' b p s M := fun H => ⟨m, H.box 3 rfl, H.rd2 2 rfl⟩
  have mid : ∀ {h' : Heap}, BlkA h' b p s M → Meets Try.prog encode_Block_Mid_id #[.pointer (some b)] h' fun v h2 => ∃ (r : Sl) (rs : List Sl), v = .slice r.ptr r.len r.cap ∧ rs.length = M.length ∧ Sp h' h2 (matA r rs M) := fun {h'} hb => mid_spec b p s M w h' hb hme (by omega) (by omega)
  have sym : ∀ {h' : Heap} (i : Int), BlkA h' b p s M → Meets Try.prog encode_Block_Symbol_id #[.pointer (some b), .int .i64 i] h' fun v h2 => ∃ r : Sl, v = .slice r.ptr r.len r.cap ∧ Sp h' h2 [OwnA T_uint8 r 1 u8v (if mayID i then symB w M (colsI n s i) else [])] := fun {h'} i hb => symbol_spec b p s i M n w h' hb hmay hw hcn hme hml
  have symL : ∀ i, (symB w M (colsI n s i)).length = w := fun i => by rw [hM]; exact B.symLen i
  refine ⟨(some b, 0), rfl, br_ne (fun e => absurd rfl e) fun _ => br_b (fun e => by cases e) fun _ => ?_⟩
  refine (mid (blk H21)).mono ?_
  rintro v h24 ⟨r24, rs24, rfl, hrs24, R24⟩
  have H24 := H21.up R24.pres
  refine ⟨r24, rfl, (copiesB_spec r24 M h24 (R24.mat hrs24 (fun _ => rfl)) (by omega) (fun r hr => by rw [hme r hr]; omega)).mono ?_⟩
  rintro v h25 ⟨r25, rfl, R25⟩
  have H25 : Sp h h25 [BoxA q T_api_Params [.int .i64 p.1, .int .i64 p.2.1, .int .i64 p.2.2], OwnA T_uint8 u 1 u8v d, RowsA T_sl_uint8 m 1 u8v M, BoxA b T_encode_Block (blkC p s m), RowsA T_sl_uint8 r25 1 u8v M] := H24.comp R25
  refine ⟨r25, rfl, (mid (blk H25)).mono ?_⟩
  rintro v h26 ⟨r26, rs26, rfl, hrs26, R26⟩
  refine ⟨r26, rfl, (sym 0 ((blk H25).up R26.pres)).mono ?_⟩
  rintro v h27 ⟨r27, rfl, R27⟩
  have Q27 := R26.comp R27
  refine ⟨r27, rfl, (sym 7 ((blk H25).up Q27.pres)).mono ?_⟩
  rintro v h28 ⟨r28, rfl, R28⟩
  rw [if_pos (by decide)] at R27 R28 Q27
  have Q28 := Q27.comp R28
  obtain ⟨M', hM'⟩ : ∃ M', M' = M ++ [symB w M (colsI n s 0)] ++ [symB w M (colsI n s 7)] := ⟨_, rfl⟩
  have e28 : matA r26 rs26 M ++ [OwnA T_uint8 r27 1 u8v (symB w M (colsI n s 0))] ++ [OwnA T_uint8 r28 1 u8v (symB w M (colsI n s 7))] = OwnA T_sl_uint8 r26 1 slv rs26 :: ownRows T_uint8 1 u8v (rs26 ++ [r27] ++ [r28]) M' := by
    rw [hM', ownRows_snoc (by simp; omega), ownRows_snoc (by omega)]; rfl
  rw [e28] at Q28
  have hM'l : M'.length = n + 2 := by rw [hM']; simp; omega
  have hM'e : evenB w M' := fun r hr => by
    rw [hM'] at hr
    rcases List.mem_append.1 hr with h1 | h1
    · rcases List.mem_append.1 h1 with h2 | h2
      · exact hme r h2
      · rw [List.mem_singleton.1 h2]; exact symL 0
    · rw [List.mem_singleton.1 h1]; exact symL 7
  refine ⟨r28, rfl, ?_⟩
  refine Q28.lit C_ok slv eSlU8 rfl [r27, r28] rfl (show 2 * 1 ≤ 2 ^ 20 by decide) rfl fun s29 h29 Q29 => ?_
  have g29 : ((OwnA T_sl_uint8 r26 1 slv rs26 :: ownRows T_uint8 1 u8v (rs26 ++ [r27] ++ [r28]) M') ++ [OwnA T_sl_uint8 s29 1 slv [r27, r28]])[(OwnA T_sl_uint8 r26 1 slv rs26 :: ownRows T_uint8 1 u8v (rs26 ++ [r27] ++ [r28]) M').length]? = some (OwnA T_sl_uint8 s29 1 slv [r27, r28]) := by
    rw [List.getElem?_append_right (Nat.le_refl _), Nat.sub_self]; rfl
  refine Q29.append C_ok 0 rfl eSlU8 ⟨_, _, rfl, rfl⟩ rfl (by decide) (fun _ => rfl) (Q29.seq _ g29 (fun _ => rfl)) one_sl (by simp; omega) fun s30 h30 Q30' => ?_
  have Q30 : Sp h25 h30 (matA s30 (rs26 ++ [r27] ++ [r28]) M') := by
    refine Q30'.pick (fun i => i) (fun _ _ h => h) fun i A hi => ?_
    have hlt : i < (matA s30 (rs26 ++ [r27] ++ [r28]) M').length := (List.getElem?_eq_some_iff.1 hi).1
    rw [← hi]
    cases i with
    | zero =>
      show some (OwnA T_sl_uint8 s30 1 slv (rs26 ++ [r27, r28])) = some (OwnA T_sl_uint8 s30 1 slv (rs26 ++ [r27] ++ [r28]))
      rw [List.append_assoc]; rfl
    | succ i =>
      show ((ownRows T_uint8 1 u8v (rs26 ++ [r27] ++ [r28]) M') ++ [_])[i]? = (ownRows T_uint8 1 u8v (rs26 ++ [r27] ++ [r28]) M')[i]?
      rw [List.getElem?_append_left (by simpa using hlt)]
  refine inc_loop (w := w) (by simp; omega) (by omega) hM'e (by omega) Q30 fun h31 M'' Q31 => ?_
  have H31 := H25.up Q31.pres
  refine (mid (blk H31)).mono ?_
  rintro v h34 ⟨r34, rs34, rfl, hrs34, R34⟩
  have H34 := H31.up R34.pres
  refine ⟨r34, rfl, trivial, (rowsB_spec r34 r25 M M h34 (R34.mat hrs34 (fun _ => rfl)) (H34.rd2 4 rfl) (by omega) (fun r hr => by rw [hme r hr]; omega)).mono ?_⟩
  rintro v h35 ⟨rfl, rfl⟩
  rw [decide_eq_true rfl]
  refine ⟨_, rfl, trivial, br_b (fun _ => ?_) (fun e => by cases e)⟩
  refine ⟨p.2.2, (H34.box 0 rfl).cell rfl, ⟨by omega, by rw [hw]; exact Int.ofNat_le.2 (by omega)⟩, (sym 0 (blk H34)).mono ?_⟩
  rintro v h36 ⟨r36, rfl, R36⟩
  have e36 : (if mayID 0 then symB w M (colsI n s 0) else []) = pcL d w 0 := by rw [if_pos (by decide), hM]; exact B.symFirst (show 0 < K by omega)
  rw [e36] at R36
  have H36 := H34.comp R36
  have c36 := (H36.box 0 rfl).cell (j := 2) (v := .int .i64 p.2.2) rfl
  refine ⟨r36, rfl, ⟨c36, trivial⟩, ?_⟩
  have e37 : pcL d w 0 = d.take w := by rw [pcL, Nat.zero_mul, List.drop_zero]
  have htk := (H36.seq 1 rfl (fun _ => rfl)).take w (by omega)
  have hwn : p.2.2.toNat = w := by omega
  rw [hwn]
  refine (sameB_spec r36 ⟨u.ptr, w, u.cap⟩ (d.take w) (d.take w) h36 (by rw [← e37]; exact H36.seq 5 rfl (fun _ => rfl)) htk (by simp; omega)).mono ?_
  rintro v h37 ⟨rfl, rfl⟩
  rw [decide_eq_true rfl]
  refine ⟨_, rfl, ⟨c36, trivial⟩, br_b (fun _ => ?_) (fun e => by cases e)⟩
  refine (wakes_spec h37).mono ?_
  rintro _ h38 ⟨rfl, R38⟩
  exact ⟨_, rfl, ⟨((H36.comp R38).box 0 rfl).cell (j := 2) rfl, trivial⟩, rfl, (H36.comp R38).pres⟩
end Go.Proofs.Ytgcbahhnnphejaa


