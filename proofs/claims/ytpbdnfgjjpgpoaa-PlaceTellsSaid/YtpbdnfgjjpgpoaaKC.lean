/- Part of the proofs that wellspringlaw25's laws answer true whatever the input reads, and leave it as it was; no condition. -/
import Derived.Test.YtpbdnfgjjpgpoaaKB
set_option linter.unusedVariables false
set_option linter.unusedSimpArgs false
namespace Go.Proofs.Ytpbdnfgjjpgpoaa
open Go Go.Vc Go.Proofs Wl
set_option maxRecDepth 100000
def upP (k : Nat) : List Int := (List.range k).map fun i : Nat => (i : Int)
def upG (g : Int) (k : Nat) : List Int := (upP k).filter fun i => decide (i ≠ g)
theorem upP_snoc (k : Nat) : upP (k + 1) = upP k ++ [(k : Int)] := by simp [upP, List.range_succ]
theorem upP_len (k : Nat) : (upP k).length = k := by simp [upP]
theorem upP_mem (k : Nat) (x : Int) : x ∈ upP k ↔ 0 ≤ x ∧ x < k := by
  simp only [upP, List.mem_map, List.mem_range]
  constructor
  · rintro ⟨a, ha, rfl⟩; omega
  · intro h; exact ⟨x.toNat, by omega, by omega⟩
theorem upP_nd (k : Nat) : (upP k).Nodup := by
  rw [upP, List.nodup_iff_pairwise_ne, List.pairwise_map]
  exact List.nodup_range.imp fun {a b} h e => h (Int.ofNat.inj e)
theorem upG_snoc (g : Int) (k : Nat) : upG g (k + 1) = upG g k ++ if (k : Int) ≠ g then [(k : Int)] else [] := by
  rw [upG, upP_snoc, List.filter_append, upG]
  by_cases h : (k : Int) ≠ g
  · rw [if_pos h]; simp [h]
  · rw [if_neg h]; simp at h; simp [h]
theorem upG_len : ∀ g : Nat, g < 64 → (upG g 64).length = 63 := by decide +kernel
theorem far_zero : ∀ i, i < 64 → ∀ j, j < 64 → farI i j = 0 → i = j := by decide +kernel
theorem pick_self (l : List Int) (hin : ∀ x ∈ l, 0 ≤ x ∧ x < 64) (hd : l.Nodup) : pickL l = l := by
  have key : ∀ k, k ≤ l.length → pickL (l.take k) = l.take k := by
    intro k
    induction k with
    | zero => intro _; simp [pickL]
    | succ k ih =>
      intro hk
      have hx := hin _ (List.getElem_mem (show k < l.length by omega))
      rw [pick_snoc l (by omega), ih (by omega), addOne, if_pos, take_snoc _ _ (show k < l.length by omega)]
      refine ⟨hx.1, hx.2, ?_⟩
      rw [List.contains_eq_mem, decide_eq_false]
      intro hm
      have e : l = l.take k ++ l[k] :: l.drop (k + 1) := by rw [← List.drop_eq_getElem_cons (by omega), List.take_append_drop]
      rw [e, List.nodup_append] at hd
      exact hd.2.2 _ hm _ List.mem_cons_self rfl
  have := key l.length (Nat.le_refl _)
  rwa [List.take_length] at this
theorem order_less {c : Nat} (hc : c < 64) (g : Int) : (orderL c (upP 64)).filter (fun i => decide (i ≠ g)) = orderL c (upG g 64) := by
  have h1 : pickL (upP 64) = upP 64 := pick_self _ (fun x hx => by have := (upP_mem 64 x).1 hx; omega) (upP_nd 64)
  have h2 : pickL (upG g 64) = upG g 64 := pick_self _ (fun x hx => by have := (upP_mem 64 x).1 (List.mem_filter.1 hx).1; omega) ((upP_nd 64).filter _)
  refine (order_unique hc ?_ ((order_sorted c _ hc).filter _)).symm
  rw [h2]
  have := order_perm c (upP 64)
  rw [h1] at this
  exact this.filter _
theorem order_head {c : Nat} (hc : c < 64) {a : Int} {t : List Int} (h : orderL c (upP 64) = a :: t) : a = (c : Int) := by
  have hm : (c : Int) ∈ orderL c (upP 64) := (order_mem c _ _).2 ⟨(upP_mem 64 _).2 (by omega), by omega, by omega⟩
  have ha := (order_mem c (upP 64) a).1 (by rw [h]; exact List.mem_cons_self)
  have hs := order_sorted c (upP 64) hc
  rw [h] at hm hs
  rcases List.mem_cons.1 hm with h1 | h1
  · exact h1.symm
  · have := List.rel_of_pairwise_cons hs h1
    have h0 : farI (c : Int).toNat c = 0 := by simp [farI]
    have hb := far_bound (i := a.toNat) (j := c) (by omega) hc
    unfold lessK at this
    rw [h0] at this
    have hz : farI a.toNat c = 0 := by omega
    have := far_zero a.toNat (by omega) c hc hz
    omega
set_option maxHeartbeats 2000000 in
theorem middle_spec (object block gone : Int) (h : Heap) :
    Meets Try.prog wellspringlaw25_PlaceMiddle_id #[.int .i64 object, .int .i64 block, .int .i64 gone] h fun v h' => v = .bool true ∧ Pres (fun b => b < h.size) h h' := by
  refine wellspringlaw25_PlaceMiddle_run object block gone ?_
  unfold wellspringlaw25_PlaceMiddle_m
  refine (within_spec object 16777216 h (by decide) (by decide)).mono ?_
  rintro v h1 ⟨rfl, rfl⟩
  refine ⟨_, rfl, (within_spec block 8 h1 (by decide) (by decide)).mono ?_⟩
  rintro v h2 ⟨rfl, rfl⟩
  refine ⟨_, rfl, (within_spec gone 64 h2 (by decide) (by decide)).mono ?_⟩
  rintro v h3 ⟨rfl, rfl⟩
  obtain ⟨ob, hob⟩ : ∃ x, x = object % 16777216 := ⟨_, rfl⟩
  obtain ⟨bk, hbk⟩ : ∃ x, x = block % 8 := ⟨_, rfl⟩
  obtain ⟨g, hg⟩ : ∃ g : Nat, gone % 64 = g := ⟨(gone % 64).toNat, by omega⟩
  refine ⟨_, rfl, ?_⟩
  dsimp only
  rw [← hob, ← hbk, hg]
  refine loop_inv (fun t : Sl × Sl × Nat => (t.1, t.2.1, (t.2.2 : Int))) (fun t h' => t.2.2 ≤ 64 ∧ Sp h3 h' [OwnA T_int t.1 1 intv (upP t.2.2), OwnA T_int t.2.1 1 intv (upG g t.2.2)]) (fun t => 64 - t.2.2) (⟨none, 0, 0⟩, ⟨none, 0, 0⟩, 0) rfl ⟨by simp, ((Sp.refl h3).nil T_int 1 intv).nil T_int 1 intv⟩ ?_
  rintro ⟨u, v, k⟩ h4 ⟨hk, H4⟩
  dsimp only at *
  refine br_dec (fun e => ?_) (fun e => ?_)
  · refine H4.push C_ok 0 rfl eInt rfl (by decide) (fun _ => rfl) one_int (k : Int) rfl (by decide) (by rw [upP_len]; omega) fun u' h5 H5 => ?_
    have hgl : (upG g k).length ≤ k := by
      have := List.length_filter_le (fun i => decide (i ≠ (g : Int))) (upP k)
      rw [upP_len] at this; exact this
    refine br_ne (fun e2 => ?_) (fun e2 => ?_)
    · refine H5.push C_ok 1 rfl eInt rfl (by decide) (fun _ => rfl) one_int (k : Int) rfl (by decide) (by omega) fun v' h6 H6 => ?_
      refine ⟨(u', v', k + 1), by dsimp only; rw [Go.Vc.wrap_small _ (by omega) (by omega)]; rfl, ⟨by dsimp only; omega, ?_⟩, by dsimp only; omega⟩
      dsimp only
      rw [upP_snoc, upG_snoc, if_pos e2]; exact H6
    · refine ⟨(u', v, k + 1), by dsimp only; rw [Go.Vc.wrap_small _ (by omega) (by omega)]; rfl, ⟨by dsimp only; omega, ?_⟩, by dsimp only; omega⟩
      dsimp only
      rw [upP_snoc, upG_snoc, if_neg (by simpa using e2), List.append_nil]; exact H5
  have hk64 : k = 64 := by omega
  subst hk64
  have hgl := upG_len g (by omega)
  refine (order_spec ob bk u (upP 64) h4 (H4.seq 0 rfl (fun _ => rfl)) (by rw [upP_len]; decide)).mono ?_
  rintro w h9 ⟨r, rfl, R9⟩
  rw [orderP, if_pos (by omega)] at R9
  have H9 := H4.comp R9
  refine ⟨r, rfl, (order_spec ob bk v (upG g 64) h9 (H9.seq 1 rfl (fun _ => rfl)) (by omega)).mono ?_⟩
  rintro w h10 ⟨r2, rfl, R10⟩
  rw [orderP, if_pos (by omega)] at R10
  have H10 := H9.comp R10
  obtain ⟨c, hc⟩ : ∃ c : Nat, (8 * ob + bk) % 64 = c := ⟨((8 * ob + bk) % 64).toNat, by omega⟩
  have hc64 : c < 64 := by omega
  rw [hc, Int.toNat_natCast] at H10
  obtain ⟨o, ho⟩ : ∃ o, o = orderL c (upP 64) := ⟨_, rfl⟩
  have hol : o.length = 64 := by
    rw [ho, (order_perm c _).length_eq, pick_self _ (fun x hx => by have := (upP_mem 64 x).1 hx; omega) (upP_nd 64), upP_len]
  have hol2 : (orderL c (upG g 64)).length = 63 := by
    rw [(order_perm c _).length_eq, pick_self (upG g 64) (fun x hx => by have := (upP_mem 64 x).1 (List.mem_filter.1 hx).1; omega) ((upP_nd 64).filter _), hgl]
  have hless := order_less hc64 (g : Int)
  rw [← ho] at H10 hless
  have hrl := (H10.own 2 rfl).len
  have hrl2 := (H10.own 3 rfl).len
  refine ⟨r2, rfl, join_in (br_ne (fun e2 => absurd (show (r.len : Int) = 64 by omega) e2) fun _ => br_ne (fun e2 => absurd (show (r2.len : Int) = 63 by omega) e2) fun _ => ?_)⟩
  refine loop_inv (fun t : Sl × Nat => (t.1, (t.2 : Int))) (fun t h' => t.2 ≤ o.length ∧ Sp h3 h' [OwnA T_int u 1 intv (upP 64), OwnA T_int v 1 intv (upG g 64), OwnA T_int r 1 intv o, OwnA T_int r2 1 intv (orderL c (upG g 64)), OwnA T_int t.1 1 intv ((o.take t.2).filter fun i => decide (i ≠ (g : Int)))]) (fun t => o.length - t.2) (⟨none, 0, 0⟩, 0) rfl ⟨by simp, H10.nil T_int 1 intv⟩ ?_
  rintro ⟨q, i⟩ h12 ⟨hi, H12⟩
  dsimp only at *
  refine br_dec (fun e2 => ?_) (fun e2 => ?_)
  · have hi' : i < o.length := by omega
    have hfl := List.length_filter_le (fun i => decide (i ≠ (g : Int))) (o.take i)
    rw [List.length_take] at hfl
    refine (H12.seq 2 rfl (fun _ => rfl)).get1 i rfl hi' _ rfl ?_
    refine br_ne (fun e3 => ?_) (fun e3 => ?_)
    · refine H12.push C_ok 4 rfl eInt rfl (by decide) (fun _ => rfl) one_int o[i] rfl (by decide) (by omega) fun q' h13 H13 => ?_
      refine ⟨(q', i + 1), by dsimp only; rw [Go.Vc.wrap_small _ (by omega) (by omega)]; rfl, ⟨by dsimp only; omega, ?_⟩, by dsimp only; omega⟩
      dsimp only
      rw [take_snoc _ _ hi', List.filter_append, show [o[i]].filter (fun i => decide (i ≠ (g : Int))) = [o[i]] by simp [e3]]
      exact H13
    · refine ⟨(q, i + 1), by dsimp only; rw [Go.Vc.wrap_small _ (by omega) (by omega)]; rfl, ⟨by dsimp only; omega, ?_⟩, by dsimp only; omega⟩
      dsimp only
      rw [take_snoc _ _ hi', List.filter_append, show [o[i]].filter (fun i => decide (i ≠ (g : Int))) = [] by simp [e3], List.append_nil]
      exact H12
  rw [List.take_of_length_le (by omega), hless] at H12
  have h0 : o[0]'(by omega) = (c : Int) := by
    obtain ⟨a, t, ht⟩ : ∃ a t, o = a :: t := by
      cases hh : o with
      | nil => rw [hh] at hol; cases hol
      | cons a t => exact ⟨a, t, rfl⟩
    have ha := order_head hc64 (ho ▸ ht)
    have e0 : o[0]? = some a := by rw [ht]; rfl
    rw [List.getElem?_eq_getElem (by omega)] at e0
    rw [← ha]; exact Option.some.inj e0
  refine (H12.seq 2 rfl (fun _ => rfl)).get1 0 rfl (by omega) (c : Int) (by rw [h0]; rfl) ⟨by decide, ?_⟩
  rw [Go.Vc.wrap_small (8 * ob) (by omega) (by omega), Go.Vc.wrap_small (8 * ob + bk) (by omega) (by omega), Int.tmod_eq_emod_of_nonneg (by omega), hc]
  refine br_eq (fun _ => ?_) (fun e3 => absurd rfl e3)
  refine (same_int_spec q r2 _ _ h12 (H12.seq 4 rfl (fun _ => rfl)) (H12.seq 3 rfl (fun _ => rfl)) (by omega)).mono ?_
  rintro w h15 ⟨rfl, rfl⟩
  rw [decide_eq_true rfl]
  refine ⟨_, rfl, br_b (fun _ => ?_) (fun e3 => by cases e3)⟩
  refine (wakes_spec h15).mono ?_
  rintro w h16 ⟨rfl, R16⟩
  exact ⟨_, rfl, rfl, (H12.comp R16).pres⟩
end Go.Proofs.Ytpbdnfgjjpgpoaa
