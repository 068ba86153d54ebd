/- Part of the proofs that wellspringlaw13's laws answer true whatever the input reads, and leave it as it was; no condition. -/
import Derived.Test.YtlefjaiignpnaaaKA
import Derived.Test.YtlefjaiignpnaaaPlA
namespace Go.Proofs.Ytlefjaiignpnaaa
open Go Go.Vc Go.Proofs Wl
set_option maxRecDepth 100000
theorem starRow_ok {n m i : Nat} (hm : m < n) (hi : i < n - 1) : rowOk n (starRow m i) = true := by
  unfold starRow
  by_cases h : i < m
  · simp only [h, if_true]
    simp [rowOk, risesB]; omega
  · simp only [h, if_false]
    simp [rowOk, risesB]; omega
theorem star_right {n m : Nat} (hn : n ≤ 64) (hm : m < n) : rightB n (star n m) = true := by
  simp only [rightB, Bool.and_eq_true, decide_eq_true_eq, List.all_eq_true]
  refine ⟨by omega, fun r hr => ?_⟩
  obtain ⟨i, hi, rfl⟩ := List.mem_map.1 hr
  exact starRow_ok hm (List.mem_range.1 hi)
def cntU (m c : Nat) : Nat := if c ≤ m then c else c - 1
def starU (m c : Nat) : List (List Int) := (List.range (cntU m c)).map (starRow m)
theorem starU_len (m c : Nat) : (starU m c).length = cntU m c := by simp [starU]
theorem starU_lt {m c : Nat} (h : c < m) : starU m (c + 1) = starU m c ++ [[(c : Int), (m : Int)]] := by
  unfold starU cntU
  rw [if_pos (by omega), if_pos (by omega), List.range_succ, List.map_append]
  simp [starRow, h]
theorem starU_eq (m : Nat) : starU m (m + 1) = starU m m := by
  unfold starU cntU
  rw [if_neg (by omega), if_pos (by omega), Nat.add_sub_cancel]
theorem starU_gt {m c : Nat} (h : m < c) : starU m (c + 1) = starU m c ++ [[(m : Int), (c : Int)]] := by
  unfold starU cntU
  rw [if_neg (by omega), if_neg (by omega), show c + 1 - 1 = (c - 1) + 1 by omega, List.range_succ, List.map_append]
  have : ((c - 1 : Nat) : Int) + 1 = c := by omega
  simp [starRow, show ¬ c - 1 < m by omega, this]

set_option maxHeartbeats 8000000 in
theorem planPairs_spec (n middle : Int) (h : Heap) : Spec Try.prog wellspringlaw13_PlanPairs_id #[.int .i64 n, .int .i64 middle] h fun v h' => v = .bool true ∧ Pres (fun b => b < h.size) h h' := by
  refine wellspringlaw13_PlanPairs_run n middle ?_
  unfold wellspringlaw13_PlanPairs_m
  refine (within_spec n 40 h (by decide) (by decide)).mono ?_
  rintro v h1 ⟨rfl, rfl⟩
  have hm0 := Int.emod_nonneg n (show (40 : Int) ≠ 0 by decide)
  have hm1 := Int.emod_lt_of_pos n (show (0 : Int) < 40 by decide)
  obtain ⟨K, hK⟩ : ∃ K : Nat, n % 40 = K := ⟨(n % 40).toNat, by omega⟩
  rw [hK] at hm1 ⊢
  refine ⟨_, rfl, ?_⟩
  dsimp only
  rw [wrap_small (3 + (K : Int)) (by omega) (by omega)]
  obtain ⟨N, hN⟩ : ∃ N : Nat, 3 + (K : Int) = N := ⟨3 + K, by omega⟩
  rw [hN]
  have hN3 : 3 ≤ N := by omega
  have hN64 : N ≤ 64 := by omega
  refine (within_spec middle N h1 (by omega) (by omega)).mono ?_
  rintro v h2 ⟨rfl, rfl⟩
  have hm2 := Int.emod_nonneg middle (show (N : Int) ≠ 0 by omega)
  have hm3 := Int.emod_lt_of_pos middle (show (0 : Int) < N by omega)
  obtain ⟨M, hM⟩ : ∃ M : Nat, middle % (N : Int) = M := ⟨(middle % (N : Int)).toNat, by omega⟩
  rw [hM] at hm3 ⊢
  have hMN : M < N := by omega
  refine ⟨_, rfl, ?_⟩
  dsimp only
  rw [wrap_small ((N : Int) - 1) (by omega) (by omega)]
  refine loop_inv (fun t : Nat × (Nat → Nat) × Sl × List Sl => (t.2.2.1, (t.1 : Int))) (fun ⟨c, co, s, rs⟩ h' => c ≤ N ∧ Base h2 h' co ∧ RowsC h' co 1 10 T_sl_int s 1 intv (starU M c) rs) (fun t => N - t.1) (0, fun _ => 0, ⟨none, 0, 0⟩, []) rfl
    ⟨by simp, Base.refl _, RowsC.nil _ _ _ _ _ _ _⟩ ?_
  rintro ⟨c, co, s, rs⟩ h3 ⟨hc, hB, hR⟩
  dsimp only at *
  have hul : (starU M c).length = cntU M c := starU_len M c
  have hcu : cntU M c ≤ c := by unfold cntU; split <;> omega
  refine br_dec (fun hlt => ?_) (fun hge => ?_)
  · have hc' : c < N := by omega
    rw [wrap_small ((c : Int) + 1) (by omega) (by omega)]
    refine join_in ?_
    refine br_dec (fun hcm => ?_) (fun hcm => ?_)
    · refine runC_lit C_ok hB (10 + (starU M c).length) intv ⟨_, _, rfl, rfl, rfl, rfl, rfl, rfl⟩ rfl [(c : Int), (M : Int)] rfl (Nat.le_of_ble_eq_true rfl) rfl fun v h4 hv4 hp4 => ?_
      refine (hR.keep (m := 10 + (starU M c).length) hp4 (by omega) (by omega)).push C_ok ⟨_, _, rfl, rfl, rfl, rfl, rfl, rfl⟩ (x := [(c : Int), (M : Int)]) (hv4.own.seq (fun _ => rfl) fun b hb => ⟨hv4.own.lt hb, hv4.col b hb⟩) (by omega) (by omega) fun s' h5 hR5 hp5 => ?_
      refine br_f (decide_eq_false (by omega)) ?_
      exact ⟨(c + 1, grow (grow co h3.size (10 + (starU M c).length)) h4.size 1, s', rs ++ [v]), by simp, ⟨by simp; omega, (hB.keep hp4 (by omega)).keep hp5 (by decide), by dsimp only; rw [starU_lt (by omega)]; exact hR5⟩, by simp; omega⟩
    · refine br_dec (fun hcm2 => ?_) (fun hcm2 => ?_)
      · refine runC_lit C_ok hB (10 + (starU M c).length) intv ⟨_, _, rfl, rfl, rfl, rfl, rfl, rfl⟩ rfl [(M : Int), (c : Int)] rfl (Nat.le_of_ble_eq_true rfl) rfl fun v h4 hv4 hp4 => ?_
        refine (hR.keep (m := 10 + (starU M c).length) hp4 (by omega) (by omega)).push C_ok ⟨_, _, rfl, rfl, rfl, rfl, rfl, rfl⟩ (x := [(M : Int), (c : Int)]) (hv4.own.seq (fun _ => rfl) fun b hb => ⟨hv4.own.lt hb, hv4.col b hb⟩) (by omega) (by omega) fun s' h5 hR5 hp5 => ?_
        exact ⟨(c + 1, grow (grow co h3.size (10 + (starU M c).length)) h4.size 1, s', rs ++ [v]), by simp, ⟨by simp; omega, (hB.keep hp4 (by omega)).keep hp5 (by decide), by dsimp only; rw [starU_gt (by omega)]; exact hR5⟩, by simp; omega⟩
      · have hce : c = M := by omega
        subst hce
        exact ⟨(c + 1, co, s, rs), by simp, ⟨by simp; omega, hB, by dsimp only; rw [starU_eq]; exact hR⟩, by simp; omega⟩
  · have hce : c = N := by omega
    subst hce
    have hst : starU M c = star c M := by unfold starU star cntU; rw [if_neg (by omega)]
    rw [hst] at hR
    obtain ⟨e1, e2, e3⟩ := star_plan hN3 hMN
    have hright := star_right hN64 hMN
    have hout : plOut c (star c M) = ((List.range (c - 1)).map (fun i : Nat => ((i : Int), (other M i : Int))), [(M : Int)], []) := by
      unfold plOut; rw [if_pos hright, Int.toNat_natCast, e1, e2, e3]
    refine (plan_spec c s (star c M) rs h3 hR.seq2 (by rw [star_len]; omega) (fun r hr => ?_)).mono ?_
    · obtain ⟨i, hi, rfl⟩ := List.mem_map.1 hr
      exact Nat.le_trans (row_short (starRow_ok hMN (List.mem_range.1 hi)) (by omega)) (by decide)
    rw [hout, hright]
    rintro v h4 ⟨hp4, s1, d1, f1, rfl, hs1, hd1, hf1⟩
    dsimp only at hs1 hd1 hf1
    refine ⟨((s1, d1, f1), _), rfl, ?_⟩
    dsimp only
    refine runC_alloc C_ok (Base.refl h4) 1 rfl fun a h5 ha hp5 => ?_
    refine ha.store0 C_ok rfl _ rfl rfl rfl (Nat.le_refl _) fun h6 ha6 hp6 => ?_
    have hB6 := ((Base.refl h4).keep (m := 1) hp5 (by decide)).keep (m := 1) hp6 (by decide)
    have hp26 := up hB.pres (up hp4 hB6.pres)
    refine join_in ?_
    refine br_not (fun hb => absurd hb (by decide)) (fun _ => ?_)
    refine ⟨d1, ha6.box.cell rfl, ?_⟩
    refine run_lit (f := intv) C_ok ⟨_, _, rfl, rfl, rfl, rfl, rfl, rfl⟩ rfl [(M : Int)] rfl (Nat.le_of_ble_eq_true rfl) rfl fun w h7 hw hwp hp7 _ => ?_
    have hp7 := any hp7
    refine (same_int_spec d1 w [(M : Int)] [(M : Int)] h7 (Seq.up (Seq.up hd1 hB6.pres) hp7) (hw.seq (p := fun _ => True) (fun _ => rfl) fun _ _ => trivial) (by simp)).mono ?_
    rintro v h8 ⟨rfl, rfl⟩
    refine ⟨_, rfl, ?_⟩
    refine br_not (fun hb => absurd hb (by simp)) (fun _ => ?_)
    have ha8 := ha6.box.pres hp7 ha6.box.lt
    have hs8 := Seq.up (Seq.up hs1 hB6.pres) hp7
    refine ⟨s1, ha8.cell0 rfl, ?_⟩
    have hsl := hs1.len
    have hfl := hf1.len
    simp only [List.length_map, List.length_range] at hsl
    refine br_ne (fun hne => absurd hne (by omega)) (fun _ => ?_)
    refine ⟨f1, ha8.cell rfl, ?_⟩
    refine br_ne (fun hne => absurd hne (by simp at hfl; omega)) (fun _ => ?_)
    refine ⟨s1, ha8.cell0 rfl, ?_⟩
    have hp28 := up hp26 hp7
    refine loop_inv (fun i : Nat => (i : Int)) (fun i h' => i ≤ c - 1 ∧ Pres (fun b => b < h8.size) h8 h') (fun i => c - 1 - i) 0 rfl ⟨by omega, Pres.refl _ _⟩ ?_
    rintro i h9 ⟨hi, hp9⟩
    refine br_dec (fun hlt => ?_) (fun hge => ?_)
    · have hi' : i < c - 1 := by omega
      refine (Seq.up hs8 hp9).getk (g := stepv) i rfl (by simp; omega) ((i : Int), (other M i : Int)) (by simp) ?_
      refine runC_alloc C_ok (Base.refl h9) 1 rfl fun a2 h10 ha2 hp10 => ?_
      refine ha2.store0 C_ok rfl _ rfl rfl rfl (Nat.le_refl _) fun h11 ha11 hp11 => ?_
      have hB11 := ((Base.refl h9).keep (m := 1) hp10 (by decide)).keep (m := 1) hp11 (by decide)
      refine ⟨(i : Int), ha11.box.cell0 rfl, ?_⟩
      refine br_ne (fun hne => absurd rfl hne) (fun _ => ?_)
      refine ⟨(other M i : Int), ha11.box.cell rfl, ?_⟩
      refine br_eq (fun he => absurd he (by unfold other; split <;> omega)) (fun _ => ?_)
      rw [wrap_small _ (by omega) (by omega)]
      exact ⟨i + 1, by simp, ⟨by omega, up hp9 hB11.pres⟩, by omega⟩
    · refine (wakes_spec h9).mono ?_
      rintro v h10 ⟨rfl, hp10⟩
      exact ⟨true, rfl, rfl, up hp28 (up hp9 hp10)⟩
end Go.Proofs.Ytlefjaiignpnaaa

namespace Go.Proofs.Ytlefjaiignpnaaa
open Go Go.Vc Go.Proofs Wl
set_option maxRecDepth 100000
theorem Seq.drop {α : Type} {h : Heap} {p : Blocks} {s : Sl} {w : Nat} {f : α → List Value} {l : List α} (hs : Seq h p s w f l) (k : Nat) (hc : s.len ≤ s.cap) :
    Seq h p ⟨if s.cap = k then s.ptr else s.ptr.map (·.add (k * w)), s.len - k, s.cap - k⟩ w f (l.drop k) := by
  have hl := hs.len
  refine ⟨by simp [hl], fun i x hx => ?_⟩
  rw [List.getElem?_drop] at hx
  obtain ⟨b, o, h1, h2, h3⟩ := hs.elem _ x hx
  have hlt := (List.getElem?_eq_some_iff.1 hx).1
  refine ⟨b, o + k * w, ?_, h2, ?_⟩
  · dsimp only
    rw [if_neg (by omega), h1, Option.map_some, add_eq]
  · rw [show o + k * w + i * w = o + (k + i) * w by rw [Nat.add_mul]; omega]; exact h3
theorem Seq.take {α : Type} {h : Heap} {p : Blocks} {s : Sl} {w : Nat} {f : α → List Value} {l : List α} (hs : Seq h p s w f l) (k : Nat) (hk : k ≤ l.length) :
    Seq h p ⟨s.ptr, k, s.cap⟩ w f (l.take k) := by
  refine ⟨by simp; omega, fun i x hx => ?_⟩
  rw [List.getElem?_take] at hx
  split at hx
  · exact hs.elem i x hx
  · cases hx
theorem pair_next (S c : Nat) : [(S : Int)] :: pairUp (c + 1 + 1) = ([(S : Int)] :: pairUp (c + 1)) ++ [[(c : Int), (c : Int) + 1]] := by
  simp only [pairUp, Nat.add_sub_cancel]
  rw [List.range_succ, List.map_append]; rfl
theorem chain_right {N S k : Nat} (hN : N ≤ 64) (hS : S < N) : rightB N (chainRows N S k) = true ∧ ∀ r ∈ chainRows N S k, r.length ≤ 2 := by
  have each : ∀ r ∈ chainRows N S k, r = [(S : Int)] ∨ ∃ c : Nat, c + 1 < N ∧ r = [(c : Int), (c : Int) + 1] := by
    intro r hr
    have hr : r ∈ [(S : Int)] :: pairUp N := by
      rw [← List.take_append_drop k ([(S : Int)] :: pairUp N), List.mem_append]
      rw [chainRows, List.mem_append] at hr
      exact hr.symm
    rcases List.mem_cons.1 hr with hr | hr
    · exact .inl hr
    · obtain ⟨c, hc, rfl⟩ := List.mem_map.1 hr
      exact .inr ⟨c, by have := List.mem_range.1 hc; omega, rfl⟩
  refine ⟨?_, fun r hr => ?_⟩
  · simp only [rightB, Bool.and_eq_true, decide_eq_true_eq, List.all_eq_true]
    refine ⟨by omega, fun r hr => ?_⟩
    rcases each r hr with rfl | ⟨c, hc, rfl⟩
    · simp [rowOk, risesB]; omega
    · simp [rowOk, risesB]; omega
  · rcases each r hr with rfl | ⟨c, hc, rfl⟩ <;> simp

set_option maxHeartbeats 8000000 in
theorem planChain_spec (n start turn : Int) (h : Heap) : Spec Try.prog wellspringlaw13_PlanChain_id #[.int .i64 n, .int .i64 start, .int .i64 turn] h fun v h' => v = .bool true ∧ Pres (fun b => b < h.size) h h' := by
  refine wellspringlaw13_PlanChain_run n start turn ?_
  unfold wellspringlaw13_PlanChain_m
  refine (within_spec n 64 h (by decide) (by decide)).mono ?_
  rintro v h1 ⟨rfl, rfl⟩
  have hm0 := Int.emod_nonneg n (show (64 : Int) ≠ 0 by decide)
  have hm1 := Int.emod_lt_of_pos n (show (0 : Int) < 64 by decide)
  obtain ⟨K, hK⟩ : ∃ K : Nat, n % 64 = K := ⟨(n % 64).toNat, by omega⟩
  rw [hK] at hm1 ⊢
  refine ⟨_, rfl, ?_⟩
  dsimp only
  rw [wrap_small (1 + (K : Int)) (by omega) (by omega)]
  obtain ⟨N, hN⟩ : ∃ N : Nat, 1 + (K : Int) = N := ⟨1 + K, by omega⟩
  rw [hN]
  have hN1 : 1 ≤ N := by omega
  have hN64 : N ≤ 64 := by omega
  refine (within_spec start N h1 (by omega) (by omega)).mono ?_
  rintro v h2 ⟨rfl, rfl⟩
  have hm2 := Int.emod_nonneg start (show (N : Int) ≠ 0 by omega)
  have hm3 := Int.emod_lt_of_pos start (show (0 : Int) < N by omega)
  obtain ⟨S, hS⟩ : ∃ S : Nat, start % (N : Int) = S := ⟨(start % (N : Int)).toNat, by omega⟩
  rw [hS] at hm3 ⊢
  have hSN : S < N := by omega
  refine ⟨_, rfl, ?_⟩
  dsimp only
  refine runC_lit C_ok (Base.refl h2) 10 intv ⟨_, _, rfl, rfl, rfl, rfl, rfl, rfl⟩ rfl [(S : Int)] rfl (Nat.le_of_ble_eq_true rfl) rfl fun v3 h3 hv3 hp3 => ?_
  have hB3 := (Base.refl h2).keep (m := 10) hp3 (by decide)
  refine runC_lit C_ok hB3 1 slv ⟨_, _, rfl, rfl, rfl, rfl, rfl, rfl⟩ rfl [v3] rfl (Nat.le_of_ble_eq_true rfl) rfl fun v4 h4 hv4 hp4 => ?_
  have hB4 := hB3.keep (m := 1) hp4 (by decide)
  have hv34 := hv3.keep (m := 1) hp4 (by decide)
  refine loop_inv (fun t : Nat × (Nat → Nat) × Sl × List Sl => (t.2.2.1, (t.1 : Int))) (fun ⟨c, co, s, rs⟩ h' => c < N ∧ Base h2 h' co ∧ RowsC h' co 1 10 T_sl_int s 1 intv ([(S : Int)] :: pairUp (c + 1)) rs) (fun t => N - t.1) (0, _, v4, [v3]) rfl
    ⟨hN1, hB4, ⟨hv4, rfl, fun i r l h1 h2 => ?_⟩⟩ ?_
  · have hi : i = 0 := by have := (List.getElem?_eq_some_iff.1 h1).1; simpa using this
    subst hi
    simp [pairUp] at h1 h2
    subst h1; subst h2
    exact hv34.own.seq (fun _ => rfl) fun b hb => ⟨hv34.own.lt hb, by rw [hv34.col b hb]; simp [pairUp]⟩
  rintro ⟨c, co, s, rs⟩ h5 ⟨hc, hB, hR⟩
  dsimp only at *
  have hul : ([(S : Int)] :: pairUp (c + 1)).length = c + 1 := by simp [pairUp]
  rw [wrap_small ((c : Int) + 1) (by omega) (by omega)]
  refine br_dec (fun hlt => ?_) (fun hge => ?_)
  · refine runC_lit C_ok hB (10 + (c + 1)) intv ⟨_, _, rfl, rfl, rfl, rfl, rfl, rfl⟩ rfl [(c : Int), (c : Int) + 1] rfl (Nat.le_of_ble_eq_true rfl) rfl fun v h6 hv6 hp6 => ?_
    refine (hR.keep (m := 10 + (c + 1)) hp6 (by omega) (by omega)).push C_ok ⟨_, _, rfl, rfl, rfl, rfl, rfl, rfl⟩ (x := [(c : Int), (c : Int) + 1]) (hv6.own.seq (fun _ => rfl) fun b hb => ⟨hv6.own.lt hb, by rw [hul]; exact hv6.col b hb⟩) (by omega) (by omega) fun s' h7 hR7 hp7 => ?_
    exact ⟨(c + 1, grow (grow co h5.size (10 + (c + 1))) h6.size 1, s', rs ++ [v]), by simp, ⟨by simp; omega, (hB.keep hp6 (by omega)).keep hp7 (by decide), by dsimp only; rw [pair_next]; exact hR7⟩, by simp; omega⟩
  · obtain rfl : N = c + 1 := by omega
    refine (within_spec turn ((c + 1 : Nat) : Int) h5 (by omega) (by omega)).mono ?_
    rintro v h6 ⟨rfl, rfl⟩
    have hm4 := Int.emod_nonneg turn (show ((c + 1 : Nat) : Int) ≠ 0 by omega)
    have hm5 := Int.emod_lt_of_pos turn (show (0 : Int) < ((c + 1 : Nat) : Int) by omega)
    obtain ⟨k, hk⟩ : ∃ k : Nat, turn % ((c + 1 : Nat) : Int) = k := ⟨(turn % ((c + 1 : Nat) : Int)).toNat, by omega⟩
    rw [hk] at hm5 ⊢
    have hkc : k < c + 1 := by omega
    refine ⟨_, rfl, ?_⟩
    dsimp only
    have hsl := hR.own.own.len
    have hrl := hR.len
    rw [hul] at hrl
    have hcap := hR.own.own.cap
    refine join_cut (fun s' h' => ∃ rs', Base h2 h' (fun b => if b < h2.size then 0 else 1) ∧ Seq2 h' (fun b => b < h'.size) s' 1 intv (chainRows (c + 1) S k) rs') ?_ ?_
    · have g1 : (k : Int) ≤ (s.len : Int) := by omega
      have g2 : (k : Int) ≤ (s.cap : Int) := by omega
      refine ⟨⟨Int.natCast_nonneg _, g1⟩, ⟨Int.natCast_nonneg _, g2⟩, ?_⟩
      rw [Int.toNat_natCast]
      have hseq : Seq h6 (fun b => b < h6.size ∧ co b = 1) s 1 slv rs := hR.own.own.seq (fun _ => rfl) fun b hb => ⟨hR.own.own.lt hb, hR.own.col b hb⟩
      refine (OwnC.nil h6 co 2 T_sl_int 1 slv).append (v := ⟨if s.cap = k then s.ptr else s.ptr.map (·.add (k * 1)), s.len - k, s.cap - k⟩) C_ok ⟨_, _, rfl, rfl, rfl, rfl, rfl, rfl⟩ ⟨_, _, rfl, rfl⟩ rfl (by decide) (fun _ => rfl) (Seq.drop hseq k hcap) one_sl (by simp; omega) fun s7 h7 hs7 hp7 => ?_
      refine ⟨trivial, ?_⟩
      have hseq7 : SeqC h7 (grow co h6.size 2) 1 s 1 slv rs := SeqC.keep hseq hp7 (by decide)
      refine hs7.append (v := ⟨s.ptr, k, s.cap⟩) C_ok ⟨_, _, rfl, rfl, rfl, rfl, rfl, rfl⟩ ⟨_, _, rfl, rfl⟩ rfl (by decide) (fun _ => rfl) (Seq.take hseq7 k (by omega)) one_sl (by simp; omega) fun s8 h8 hs8 hp8 => ?_
      refine ⟨trivial, [] ++ rs.drop k ++ rs.take k, ⟨((hB.keep (m := 2) hp7 (by decide)).keep (m := 2) hp8 (by decide)).pres, fun b hb => if_pos hb⟩, hs8.seqB fun _ => rfl, ?_, ?_⟩
      · simp [chainRows, hrl, pairUp]
      · intro i r l hr hl
        have key : ∃ j : Nat, rs[j]? = some r ∧ ([(S : Int)] :: pairUp (c + 1))[j]? = some l := by
          rw [chainRows] at hl
          by_cases hi : i < c + 1 - k
          · rw [List.getElem?_append_left (by simp [hrl]; omega)] at hr
            rw [List.getElem?_append_left (by rw [List.length_drop, hul]; omega)] at hl
            rw [List.nil_append, List.getElem?_drop] at hr
            rw [List.getElem?_drop] at hl
            exact ⟨k + i, hr, hl⟩
          · rw [List.getElem?_append_right (by simp [hrl]; omega)] at hr
            rw [List.getElem?_append_right (by rw [List.length_drop, hul]; omega)] at hl
            rw [List.nil_append, List.length_drop, hrl, List.getElem?_take] at hr
            rw [List.length_drop, hul, List.getElem?_take] at hl
            split at hr
            · rename_i hlt
              rw [if_pos hlt] at hl
              exact ⟨_, hr, hl⟩
            · cases hr
        obtain ⟨j, h1, h2⟩ := key
        have := hR.row j r l h1 h2
        have h7' := (this.pres (hp7.mono fun b _ hb => by omega)).mono (q := fun b => b < h7.size ∧ 10 ≤ grow co h6.size 2 b) fun b hb => ⟨Nat.lt_of_lt_of_le hb.1 hp7.1, by rw [grow_old hb.1]; exact hb.2.1⟩
        exact (h7'.pres (hp8.mono fun b _ hb => by have := hb.2; omega)).mono fun b hb => Nat.lt_of_lt_of_le hb.1 hp8.1
    · rintro s' h7 ⟨rs', hB7, hx⟩
      obtain ⟨hright, hshort⟩ := chain_right (k := k) hN64 hSN
      have hlen : (chainRows (c + 1) S k).length ≤ 2 ^ 30 := by
        rw [chainRows, List.length_append, List.length_drop, List.length_take, hul]; omega
      obtain ⟨e1, e2, e3⟩ := chain_plan (k := k) hN1 hSN
      refine (plan_spec ((c + 1 : Nat) : Int) s' _ rs' h7 hx hlen (fun r hr => Nat.le_trans (hshort r hr) (by decide))).mono ?_
      rw [hright]
      have hout : (plOut ((c + 1 : Nat) : Int) (chainRows (c + 1) S k)).1.length = c + 1 ∧ (plOut ((c + 1 : Nat) : Int) (chainRows (c + 1) S k)).2 = ([], []) := by
        unfold plOut; rw [if_pos hright, Int.toNat_natCast]; exact ⟨e2, by rw [e1, e3]⟩
      rintro v h8 ⟨hp8, s1, d1, f1, rfl, hs1, hd1, hf1⟩
      rw [hout.2] at hd1 hf1
      have l1 := hs1.len; have l2 := hd1.len; have l3 := hf1.len
      rw [hout.1] at l1
      refine ⟨((s1, d1, f1), _), rfl, ?_⟩
      dsimp only
      refine runC_alloc C_ok (Base.refl h8) 1 rfl fun a h9 ha hp9 => ?_
      refine ha.store0 C_ok rfl _ rfl rfl rfl (Nat.le_refl _) fun h10 ha10 hp10 => ?_
      have hB10 := ((Base.refl h8).keep (m := 1) hp9 (by decide)).keep (m := 1) hp10 (by decide)
      refine br_t rfl ?_
      refine ⟨d1, ha10.box.cell rfl, br_eq (fun _ => ?_) (fun hh => absurd hh (by simp at l2; omega))⟩
      refine ⟨f1, ha10.box.cell rfl, br_eq (fun _ => ?_) (fun hh => absurd hh (by simp at l3; omega))⟩
      refine ⟨s1, ha10.box.cell0 rfl, br_eq (fun _ => ?_) (fun hh => absurd hh (by omega))⟩
      refine (wakes_spec h10).mono ?_
      rintro v h11 ⟨rfl, hp11⟩
      exact ⟨true, rfl, rfl, up hB7.pres (up hp8 (up hB10.pres hp11))⟩
end Go.Proofs.Ytlefjaiignpnaaa
