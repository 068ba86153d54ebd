/- Part of the proofs that wellspringlaw25's laws answer true whatever the input reads, and leave it as it was; no condition. -/
import Derived.Test.YtpbdnfgjjpgpoaaKC
set_option linter.unusedVariables false
set_option linter.unusedSimpArgs false
namespace Go.Proofs.Ytpbdnfgjjpgpoaa
open Go Go.Vc Go.Proofs Wl
set_option maxRecDepth 100000
theorem order_congr {c : Nat} (hc : c < 64) {l m : List Int} (h : ∀ x, 0 ≤ x → x < 64 → (x ∈ l ↔ x ∈ m)) : orderL c l = orderL c m := by
  refine order_unique hc ((order_perm c m).trans ?_) (order_sorted c m hc)
  refine (List.perm_ext_iff_of_nodup (pick_nd m) (pick_nd l)).2 fun x => ?_
  rw [pick_all, pick_all]
  constructor
  · rintro ⟨h1, h2, h3⟩; exact ⟨(h x h2 h3).2 h1, h2, h3⟩
  · rintro ⟨h1, h2, h3⟩; exact ⟨(h x h2 h3).1 h1, h2, h3⟩
theorem ord_far {i j c : Nat} (hi : i < 64) (hj : j < 64) (hc : c < 64) : (FloatKind.format .f64).order (fbits (farI i c)) (fbits (farI j c)) = some (compare (farI i c).toNat (farI j c).toNat) := by
  have a := far_bound hi hc
  have b := far_bound hj hc
  have := ord_ok (farI i c).toNat (by omega) (farI j c).toNat (by omega)
  rw [show ((farI i c).toNat : Int) = farI i c by omega, show ((farI j c).toNat : Int) = farI j c by omega] at this
  exact this
theorem cell_up {h h' : Heap} {a : Addr} {v : Value} (hc : cellOf h a = some v) (hp : Pres (fun b => b < h.size) h h') : cellOf h' a = some v := hp.cell (lt_of_cell hc) hc
theorem e_int2 : ∃ i e2, C.T.get T_sl_int = some i ∧ i.dsc = .slice e2 := ⟨_, _, rfl, rfl⟩
set_option maxHeartbeats 4000000 in
theorem near_spec (object block : Int) (s : Sl) (l : List Int) (turn : Int) (h : Heap) (hl : Rd h s 1 intv l) :
    Meets Try.prog wellspringlaw25_PlaceNear_id #[.int .i64 object, .int .i64 block, .slice s.ptr s.len s.cap, .int .i64 turn] h fun v h' => v = .bool true ∧ Pres (fun b => b < h.size) h h' := by
  refine wellspringlaw25_PlaceNear_run object block s turn ?_
  unfold wellspringlaw25_PlaceNear_m
  refine (within_spec object 16777216 h (by decide) (by decide)).mono ?_
  rintro v h1 ⟨rfl, rfl⟩
  refine ⟨_, rfl, (within_spec block 8 h1 (by decide) (by decide)).mono ?_⟩
  rintro v h2 ⟨rfl, rfl⟩
  refine ⟨_, rfl, join_cut (fun r h' => Sp h2 h' [OwnA T_int r 1 intv (liveL l)]) (live_loop hl (Sp.refl h2) fun r h' H => H) ?_⟩
  rintro lv h8 H8
  have hlv := live_len l
  have hlin := live_in l
  have hlvl := (H8.own 0 rfl).len
  have hlvc := (H8.own 0 rfl).cap
  obtain ⟨ob, hob⟩ : ∃ x, x = object % 16777216 := ⟨_, rfl⟩
  obtain ⟨bk, hbk⟩ : ∃ x, x = block % 8 := ⟨_, rfl⟩
  dsimp only
  rw [← hob, ← hbk]
  refine (order_spec ob bk lv (liveL l) h8 (H8.seq 0 rfl (fun _ => rfl)) (by omega)).mono ?_
  rintro v h9 ⟨r, rfl, R9⟩
  rw [orderP, if_pos (by omega)] at R9
  obtain ⟨c, hc⟩ : ∃ c : Nat, (8 * ob + bk) % 64 = c := ⟨((8 * ob + bk) % 64).toNat, by omega⟩
  have hc64 : c < 64 := by omega
  rw [hc, Int.toNat_natCast] at R9
  have H9 := H8.comp R9
  obtain ⟨o, ho⟩ : ∃ o, o = orderL c (liveL l) := ⟨_, rfl⟩
  have hom : ∀ x, x ∈ o ↔ x ∈ liveL l := fun x => by rw [ho, order_mem]; exact ⟨fun h => h.1, fun h => ⟨h, hlin x h⟩⟩
  have hos : o.Pairwise (lessK c) := by rw [ho]; exact order_sorted c _ hc64
  have hol : o.length ≤ 70 := by
    have h1 := (order_perm c (liveL l)).length_eq
    have h2 := pick_len (liveL l) (liveL l).length
    rw [List.take_length] at h2
    rw [ho, h1]; omega
  rw [← ho] at H9
  have hrl := (H9.own 1 rfl).len
  refine ⟨r, rfl, by decide, ?_⟩
  rw [Go.Vc.wrap_small (8 * ob) (by omega) (by omega), Go.Vc.wrap_small (8 * ob + bk) (by omega) (by omega), Int.tmod_eq_emod_of_nonneg (by omega), hc]
  refine (at_spec c h9 hc64).mono ?_
  rintro v h10 ⟨rfl, R10⟩
  have H10 : Sp h2 h10 [OwnA T_int lv 1 intv (liveL l), OwnA T_int r 1 intv o] := H9.up R10.pres
  refine ⟨((fsA c).ax, (fsA c).ay), rfl, ?_⟩
  refine loop_inv (fun k : Nat => (k : Int)) (fun k h' => k ≤ o.length ∧ Sp h2 h' [OwnA T_int lv 1 intv (liveL l), OwnA T_int r 1 intv o]) (fun k => o.length - k) 0 rfl ⟨by omega, H10⟩ ?_
  rintro k h11 ⟨hk, H11⟩
  have hr11 := H11.seq 1 rfl (fun _ => rfl)
  refine br_dec (fun e => ?_) (fun e => ?_)
  · have hk' : k < o.length := by omega
    have hin := hlin _ ((hom _).1 (List.getElem_mem hk'))
    refine hr11.get1 k rfl hk' _ rfl ?_
    refine (member_spec lv _ o[k] h11 (H11.seq 0 rfl (fun _ => rfl)) (by omega)).mono ?_
    rintro v h12 ⟨rfl, rfl⟩
    rw [decide_eq_true ((hom _).1 (List.getElem_mem hk'))]
    refine ⟨_, rfl, br_not (fun e3 => by cases e3) fun _ => ?_⟩
    have next : ∀ {h' : Heap}, Sp h2 h' [OwnA T_int lv 1 intv (liveL l), OwnA T_int r 1 intv o] → ∃ t' : Nat, IntKind.wrap .i64 ((k : Int) + 1) = (t' : Int) ∧ (t' ≤ o.length ∧ Sp h2 h' [OwnA T_int lv 1 intv (liveL l), OwnA T_int r 1 intv o]) ∧ o.length - t' < o.length - k := fun H =>
      ⟨k + 1, by rw [Go.Vc.wrap_small _ (by omega) (by omega)]; rfl, ⟨by omega, H⟩, by omega⟩
    refine br_dec (fun e4 => ?_) (fun _ => next H11)
    obtain ⟨j, rfl⟩ : ∃ j, k = j + 1 := ⟨k - 1, by omega⟩
    have hinj := hlin _ ((hom _).1 (List.getElem_mem (show j < o.length by omega)))
    have hj1 : IntKind.wrap .i64 (((j + 1 : Nat) : Int) - 1) = (j : Int) := by rw [Go.Vc.wrap_small _ (by omega) (by omega)]; omega
    rw [hj1]
    have hlt : lessK c (o[j]'(by omega)) o[j + 1] := List.pairwise_iff_getElem.1 hos j (j + 1) (by omega) hk' (by omega)
    obtain ⟨a, hna⟩ : ∃ a : Nat, o[j]'(by omega) = (a : Int) := ⟨(o[j]'(by omega)).toNat, by omega⟩
    obtain ⟨b, hnb⟩ : ∃ b : Nat, o[j + 1] = (b : Int) := ⟨(o[j + 1]).toNat, by omega⟩
    have ha : a < 64 := by omega
    have hb : b < 64 := by omega
    refine join_cut (fun t h' => t = (fbits (farI a c), fbits (farI b c)) ∧ Sp h2 h' [OwnA T_int lv 1 intv (liveL l), OwnA T_int r 1 intv o]) ?_ ?_
    · refine hr11.get1 j rfl (by omega) (a : Int) (by rw [hna]; rfl) ?_
      refine hr11.get1A (j + 1) rfl hk' (b : Int) (by rw [hnb]; rfl) fun a19 hc19 => ?_
      refine (at_spec a h12 ha).mono ?_
      rintro v h13 ⟨rfl, R13⟩
      have q13 := cell_up hc19 R13.pres
      refine ⟨((fsA a).ax, (fsA a).ay), rfl, ⟨q13, trivial⟩, (far_spec a c h13 ha hc64).mono ?_⟩
      rintro v h14 ⟨rfl, rfl⟩
      refine ⟨_, rfl, ⟨q13, trivial⟩, (at_spec b h14 hb).mono ?_⟩
      rintro v h15 ⟨rfl, R15⟩
      refine ⟨((fsA b).ax, (fsA b).ay), rfl, trivial, (far_spec b c h15 hb hc64).mono ?_⟩
      rintro v h16 ⟨rfl, rfl⟩
      exact ⟨_, rfl, trivial, rfl, (H11.up R13.pres).up R15.pres⟩
    · rintro t h17 ⟨rfl, H17⟩
      have hr17 := H17.seq 1 rfl (fun _ => rfl)
      dsimp only
      rw [ord_far ha hb hc64]
      unfold lessK at hlt
      rw [hna, hnb, Int.toNat_natCast, Int.toNat_natCast] at hlt
      have fa := far_bound ha hc64
      have fb := far_bound hb hc64
      rcases hlt with h3 | ⟨h3, h4⟩
      · rw [Nat.compare_eq_lt.2 (by omega)]
        refine br_b (fun e5 => by cases e5) fun _ => br_b (fun e5 => by cases e5) fun _ => next H17
      · rw [h3, Nat.compare_eq_eq.2 rfl]
        refine br_b (fun e5 => by cases e5) fun _ => br_b (fun _ => ?_) (fun e5 => by cases e5)
        refine hr17.get1 j rfl (by omega) (a : Int) (by rw [hna]; rfl) ?_
        refine hr17.get1 (j + 1) rfl hk' (b : Int) (by rw [hnb]; rfl) ?_
        exact br_dec (fun e5 => absurd e5 (by omega)) fun _ => next H17
  refine loop_inv (fun k : Nat => (k : Int)) (fun k h' => h' = h11 ∧ k ≤ (liveL l).length) (fun k => (liveL l).length - k) 0 rfl ⟨rfl, by omega⟩ ?_
  rintro i h18 ⟨rfl, hi⟩
  refine br_dec (fun e2 => ?_) (fun e2 => ?_)
  · have hi' : i < (liveL l).length := by omega
    refine (H11.seq 0 rfl (fun _ => rfl)).get1 i rfl hi' _ rfl ?_
    refine (member_spec r _ (liveL l)[i] h18 hr11 (by omega)).mono ?_
    rintro v h19 ⟨rfl, rfl⟩
    rw [decide_eq_true ((hom _).2 (List.getElem_mem hi'))]
    refine ⟨_, rfl, br_not (fun e3 => by cases e3) fun _ => ?_⟩
    exact ⟨i + 1, by rw [Go.Vc.wrap_small _ (by omega) (by omega)]; rfl, ⟨rfl, by omega⟩, by omega⟩
  rw [Go.Vc.wrap_small ((lv.len : Int) + 1) (by omega) (by omega)]
  refine (within_spec turn _ h18 (by omega) (by omega)).mono ?_
  rintro v h20 ⟨rfl, rfl⟩
  have hm0 := Int.emod_nonneg turn (show ((lv.len : Nat) : Int) + 1 ≠ 0 by omega)
  have hm1 := Int.emod_lt_of_pos turn (show (0 : Int) < ((lv.len : Nat) : Int) + 1 by omega)
  obtain ⟨t, ht⟩ : ∃ t : Nat, turn % (((lv.len : Nat) : Int) + 1) = t := ⟨(turn % (((lv.len : Nat) : Int) + 1)).toNat, by omega⟩
  rw [ht] at hm1
  refine ⟨_, rfl, ?_⟩
  dsimp only
  rw [ht, Int.toNat_natCast]
  refine ⟨⟨Int.natCast_nonneg _, Int.ofNat_le.2 (show t ≤ lv.len by omega)⟩, ?_⟩
  have H20 := H11.nil T_int 1 intv
  refine H20.append C_ok 2 rfl eInt e_int2 rfl (by decide) (fun _ => rfl) ((H11.seq 0 rfl (fun _ => rfl)).drop t hlvc) one_int (by simp; omega) fun s6 h21 H21 => ?_
  refine H21.append C_ok 2 rfl eInt e_int2 rfl (by decide) (fun _ => rfl) (H21.seq 0 rfl (fun _ => rfl)) one_int (by simp; omega) fun s7 h22 H22 => ?_
  refine (order_spec ob bk s7 _ h22 (H22.seq 2 rfl (fun _ => rfl)) (by simp; omega)).mono ?_
  rintro v h23 ⟨r2, rfl, R23⟩
  rw [orderP, if_pos (by omega), hc, Int.toNat_natCast] at R23
  have H23 := H22.comp R23
  have eo : orderL c ([] ++ (liveL l).drop t ++ liveL l) = o := by
    rw [ho]
    refine order_congr hc64 fun x _ _ => ?_
    simp only [List.nil_append, List.mem_append]
    exact ⟨fun hh => hh.elim (fun h1 => List.mem_of_mem_drop h1) fun h1 => h1, .inr⟩
  rw [eo] at H23
  refine ⟨r2, rfl, (same_int_spec r r2 _ _ h23 (H23.seq 1 rfl (fun _ => rfl)) (H23.seq 3 rfl (fun _ => rfl)) (by omega)).mono ?_⟩
  rintro v h24 ⟨rfl, rfl⟩
  rw [decide_eq_true rfl]
  refine ⟨_, rfl, br_b (fun _ => ?_) (fun e3 => by cases e3)⟩
  refine (wakes_spec h24).mono ?_
  rintro v h25 ⟨rfl, R25⟩
  exact ⟨_, rfl, rfl, (H23.comp R25).pres⟩
end Go.Proofs.Ytpbdnfgjjpgpoaa
