/- Part of the proofs that wellspringlaw25's laws answer true whatever the input reads, and leave it as it was; no condition. -/
import Derived.Test.YtpbdnfgjjpgpoaaKD
import Derived.Test.YtpbdnfgjjpgpoaaHpB
set_option linter.unusedVariables false
set_option linter.unusedSimpArgs false
namespace Go.Proofs.Ytpbdnfgjjpgpoaa
open Go Go.Vc Go.Proofs Wl
set_option maxRecDepth 100000
theorem refAt_spec (n : Nat) (h : Heap) (hn : n < 64) : Meets Try.prog wellspringref21_At_id #[.int .i64 n] h fun v h' => v = .agg #[.int .i64 (spiA n).x, .int .i64 (spiA n).y] ∧ Sp h h' [] := by
  refine wellspringref21_At_run n ?_
  unfold wellspringref21_At_m
  refine (Sp.refl h).alloc C_ok rfl fun a1 h1 H1 => ?_
  refine H1.alloc C_ok rfl fun a2 h2 H2 => ?_
  refine join_in (br_dec (fun e => by omega) fun _ => br_dec (fun e => by omega) fun _ => ?_)
  refine loop_inv (fun k : Nat => ((spiA k).dx, (spiA k).dy, (spiA k).leg, (spiA k).left, (spiA k).turns, (k : Int))) (fun k h' => k ≤ n ∧ Sp h h' [BoxA a1 49 [.int .i64 0, .int .i64 0], BoxA a2 49 [.int .i64 (spiA k).x, .int .i64 (spiA k).y]]) (fun k => n - k) 0 rfl ⟨by omega, H2⟩ ?_
  rintro k h6 ⟨hk, H6⟩
  have hok := spi_ok k (by omega)
  simp only [Spi.ok, Bool.and_eq_true, decide_eq_true_eq] at hok
  dsimp only
  refine br_dec (fun e => ?_) (fun e => ?_)
  · have hnx : spiA (k + 1) = (spiA k).on := rfl
    obtain ⟨s, hs⟩ : ∃ s, s = spiA k := ⟨_, rfl⟩
    rw [← hs] at hok hnx H6 ⊢
    refine ⟨s.x, (H6.box 1 rfl).cell0 rfl, s.y, (H6.box 1 rfl).cell rfl, ?_⟩
    rw [Go.Vc.wrap_small (s.x + s.dx) (by omega) (by omega), Go.Vc.wrap_small (s.y + s.dy) (by omega) (by omega), Go.Vc.wrap_small (s.left - 1) (by omega) (by omega), Go.Vc.wrap_small (s.turns + 1) (by omega) (by omega), Go.Vc.wrap_small (0 - s.dy) (by omega) (by omega), Go.Vc.wrap_small (s.leg + 1) (by omega) (by omega), Go.Vc.wrap_small ((k : Int) + 1) (by omega) (by omega), Int.tmod_eq_emod_of_nonneg (show 0 ≤ s.turns + 1 by omega)]
    refine H6.store0 C_ok 1 rfl rfl [.int .i64 (s.x + s.dx)] rfl rfl rfl (by simp) fun h7 H7 => ?_
    refine H7.storeAt C_ok 1 rfl rfl (off := 1) rfl rfl rfl (by simp) fun h8 H8 => ?_
    have H8' : Sp h h8 [BoxA a1 49 [.int .i64 0, .int .i64 0], BoxA a2 49 [.int .i64 (s.x + s.dx), .int .i64 (s.y + s.dy)]] := H8
    refine br_eq (fun e1 => ?_) (fun e1 => ?_)
    · refine ⟨by decide, br_eq (fun e2 => ?_) (fun e2 => ?_)⟩
      · refine ⟨k + 1, ?_, ⟨by omega, ?_⟩, by omega⟩
        · rw [hnx, Spi.on, if_pos e1, if_pos e2, Int.zero_sub]; rfl
        · rw [hnx, Spi.on, if_pos e1]; exact H8'
      · refine ⟨k + 1, ?_, ⟨by omega, ?_⟩, by omega⟩
        · rw [hnx, Spi.on, if_pos e1, if_neg e2, Int.zero_sub]; rfl
        · rw [hnx, Spi.on, if_pos e1]; exact H8'
    · refine ⟨k + 1, ?_, ⟨by omega, ?_⟩, by omega⟩
      · rw [hnx, Spi.on, if_neg e1]; rfl
      · rw [hnx, Spi.on, if_neg e1]; exact H8'
  · have hkn : k = n := by omega
    subst hkn
    refine ⟨((spiA k).x, (spiA k).y), (H6.box 1 rfl).cells0 _ rfl, ?_⟩
    refine H6.storeAll C_ok 0 rfl rfl [.int .i64 (spiA k).x, .int .i64 (spiA k).y] rfl rfl rfl rfl fun h9 H9 => ?_
    exact ⟨((spiA k).x, (spiA k).y), (H9.box 0 rfl).cells0 _ rfl, rfl, .zip H9.pres⟩
theorem refFar_spec (i j : Nat) (h : Heap) (hi : i < 64) (hj : j < 64) : Meets Try.prog wellspringref21_Far_id #[.agg #[.int .i64 (spiA i).x, .int .i64 (spiA i).y], .agg #[.int .i64 (spiA j).x, .int .i64 (spiA j).y]] h fun v h' => v = .int .i64 (farI i j) ∧ Sp h h' [] := by
  have a := spi_small hi
  have b := spi_small hj
  refine wellspringref21_Far_run ((spiA i).x, (spiA i).y) ((spiA j).x, (spiA j).y) ?_
  unfold wellspringref21_Far_m
  refine (Sp.refl h).boxed fun a1 h1 H1 => ?_
  refine H1.boxed fun a2 h2 H2 => ?_
  have c1 := H2.box 0 rfl
  have c2 := H2.box 1 rfl
  have q1 := sq_le (a := (spiA i).x - (spiA j).x) (by omega) (by omega)
  have q2 := sq_le (a := (spiA i).y - (spiA j).y) (by omega) (by omega)
  refine ⟨_, c1.cell0 rfl, _, c2.cell0 rfl, _, c1.cell0 rfl, _, c2.cell0 rfl, _, c1.cell (j := 1) rfl, _, c2.cell (j := 1) rfl, _, c1.cell (j := 1) rfl, _, c2.cell (j := 1) rfl, ?_⟩
  rw [Go.Vc.wrap_small ((spiA i).x - (spiA j).x) (by omega) (by omega), Go.Vc.wrap_small ((spiA i).y - (spiA j).y) (by omega) (by omega), Go.Vc.wrap_small (((spiA i).x - (spiA j).x) * ((spiA i).x - (spiA j).x)) (by omega) (by omega), Go.Vc.wrap_small (((spiA i).y - (spiA j).y) * ((spiA i).y - (spiA j).y)) (by omega) (by omega), Go.Vc.wrap_small _ (by omega) (by omega)]
  exact ⟨rfl, .zip H2.pres⟩
theorem refOf_spec (s : Sl) (o : List Int) (id : Int) (h : Heap) (hs : Rd h s 1 intv o) : Meets Try.prog wellspringref21_Of_id #[.slice s.ptr s.len s.cap, .int .i64 id] h fun v h' => v = .int .i64 (ofI o id) ∧ h' = h := by
  have hl := hs.len
  refine wellspringref21_Of_run s id ?_
  unfold wellspringref21_Of_m
  refine join_in (br_eq (fun e => ⟨by rw [ofI, if_pos (.inl (List.eq_nil_of_length_eq_zero (by omega)))], rfl⟩) fun e => br_dec (fun e2 => ⟨by rw [ofI, if_pos (.inr e2)], rfl⟩) fun e2 => ?_)
  refine ⟨e, ?_⟩
  have hne : ¬ (o = [] ∨ id < 0) := by
    rintro (rfl | h2)
    · simp at hl; omega
    · exact e2 h2
  have hem : Int.tmod id ((s.len : Nat) : Int) = ((id % (o.length : Int)).toNat : Int) := by
    rw [Int.tmod_eq_emod_of_nonneg (by omega), hl]
    have := Int.emod_nonneg id (show (o.length : Int) ≠ 0 by omega)
    omega
  have hlt : (id % (o.length : Int)).toNat < o.length := by
    have := Int.emod_lt_of_pos id (show (0 : Int) < o.length by omega)
    omega
  rw [hem]
  refine hs.get1 _ rfl hlt _ rfl ⟨?_, rfl⟩
  rw [ofI, if_neg hne, getI', List.getD_eq_getElem?_getD, List.getElem?_eq_getElem hlt]; rfl
end Go.Proofs.Ytpbdnfgjjpgpoaa

namespace Go.Proofs.Ytpbdnfgjjpgpoaa
open Go Go.Vc Go.Proofs Wl
set_option maxRecDepth 100000
theorem less_trans {c : Nat} {a b d : Int} (h1 : lessK c a b) (h2 : lessK c b d) : lessK c a d := by unfold lessK at *; omega
theorem ins_sorted {c : Nat} {o : List Int} {x : Int} {n : Nat} (hn : n ≤ o.length) (hs : o.Pairwise (lessK c)) (h1 : ∀ (h : 0 < n), lessK c (o[n - 1]'(by omega)) x) (h2 : ∀ j (h : j < o.length), n ≤ j → lessK c x o[j]) : (o.take n ++ ([x] ++ o.drop n)).Pairwise (lessK c) := by
  have lo : ∀ a ∈ o.take n, lessK c a x := fun a ha => by
    obtain ⟨j, hj, rfl⟩ := List.getElem_of_mem ha
    rw [List.length_take] at hj
    rw [List.getElem_take]
    by_cases hh : j = n - 1
    · subst hh; exact h1 (by omega)
    · exact less_trans (List.pairwise_iff_getElem.1 hs j (n - 1) (by omega) (by omega) (by omega)) (h1 (by omega))
  have hi : ∀ b ∈ o.drop n, lessK c x b := fun b hb => by
    obtain ⟨j, hj, rfl⟩ := List.getElem_of_mem hb
    rw [List.length_drop] at hj
    rw [List.getElem_drop]
    exact h2 _ _ (by omega)
  rw [List.pairwise_append]
  refine ⟨hs.sublist (List.take_sublist _ _), ?_, fun a ha b hb => ?_⟩
  · rw [List.singleton_append, List.pairwise_cons]
    exact ⟨hi, hs.sublist (List.drop_sublist _ _)⟩
  · rw [List.singleton_append, List.mem_cons] at hb
    rcases hb with rfl | hb
    · exact lo a ha
    · exact less_trans (lo a ha) (hi b hb)
theorem ins_perm (o : List Int) (x : Int) (n : Nat) : (o.take n ++ ([x] ++ o.drop n)).Perm (o ++ [x]) := by
  have h1 : (o.take n ++ ([x] ++ o.drop n)).Perm (o.take n ++ (o.drop n ++ [x])) := List.Perm.append_left _ (List.perm_append_comm)
  rw [← List.append_assoc (o.take n) (o.drop n), List.take_append_drop] at h1
  exact h1
set_option maxHeartbeats 4000000 in
theorem refOrder_spec (object block : Int) (live : Sl) (l : List Int) (h : Heap) (hl : Rd h live 1 intv l) (hsz : l.length ≤ 2 ^ 30) :
    Meets Try.prog wellspringref21_Order_id #[.int .i64 object, .int .i64 block, .slice live.ptr live.len live.cap] h fun v h' => ∃ r : Sl, v = .slice r.ptr r.len r.cap ∧ Sp h h' [OwnA T_int r 1 intv (orderP object block l)] := by
  have hll := hl.len
  refine wellspringref21_Order_run object block live ?_
  unfold wellspringref21_Order_m
  have no : ¬ (0 ≤ object ∧ object ≤ 16777215 ∧ 0 ≤ block ∧ block < 8) → ∃ r : Sl, Value.slice none 0 0 = .slice r.ptr r.len r.cap ∧ Sp h h [OwnA T_int r 1 intv (orderP object block l)] := fun hn => by
    rw [orderP, if_neg hn]; exact ⟨⟨none, 0, 0⟩, rfl, (Sp.refl h).nil T_int 1 intv⟩
  refine join_in (br_dec (fun e => no (by omega)) fun e1 => br_dec (fun e => no (by omega)) fun e2 => br_dec (fun e => no (by omega)) fun e3 => br_dec (fun e => no (by omega)) fun e4 => ?_)
  have hin : 0 ≤ object ∧ object ≤ 16777215 ∧ 0 ≤ block ∧ block < 8 := by omega
  rw [orderP, if_pos hin]
  rw [Go.Vc.wrap_small (8 * object) (by omega) (by omega), Go.Vc.wrap_small (8 * object + block) (by omega) (by omega), Int.tmod_eq_emod_of_nonneg (by omega)]
  obtain ⟨c, hc⟩ : ∃ c : Nat, (8 * object + block) % 64 = c := ⟨((8 * object + block) % 64).toNat, by omega⟩
  have hc64 : c < 64 := by omega
  rw [hc, Int.toNat_natCast]
  refine ⟨by decide, (refAt_spec c h hc64).mono ?_⟩
  rintro v h2 ⟨rfl, R2⟩
  refine ⟨((spiA c).x, (spiA c).y), rfl, ?_⟩
  refine R2.alloc C_ok rfl fun a h3 H3 => ?_
  refine H3.storeAll C_ok 0 rfl rfl [.int .i64 (spiA c).x, .int .i64 (spiA c).y] rfl rfl rfl rfl fun h4 H4 => ?_
  refine loop_inv (fun t : Sl × Nat × List Int => (t.1, (t.2.1 : Int))) (fun t h' => t.2.1 ≤ l.length ∧ t.2.2.Perm (pickL (l.take t.2.1)) ∧ t.2.2.Pairwise (lessK c) ∧ Sp h h' [BoxA a 49 [.int .i64 (spiA c).x, .int .i64 (spiA c).y], OwnA T_int t.1 1 intv t.2.2]) (fun t => l.length - t.2.1) (⟨none, 0, 0⟩, 0, []) rfl ⟨by simp, by simp [pickL], List.Pairwise.nil, H4.nil T_int 1 intv⟩ ?_
  rintro ⟨s, k, o⟩ h5 ⟨hk, hpm, hpw, H5⟩
  dsimp only at *
  have hol : o.length ≤ k := by rw [hpm.length_eq]; exact pick_len l k
  have hsl := (H5.own 1 rfl).len
  have hscap := (H5.own 1 rfl).cap
  refine br_dec (fun e => ?_) (fun e => ?_)
  · have hk' : k < l.length := by omega
    have hs := pick_snoc l hk'
    refine (Seq.up hl H5.pres).get1 k rfl hk' _ rfl ?_
    obtain ⟨x, hx⟩ : ∃ x, x = l[k] := ⟨_, rfl⟩
    rw [← hx] at hs ⊢
    rw [Go.Vc.wrap_small ((k : Int) + 1) (by omega) (by omega)]
    have skip : ∀ {h' : Heap}, ¬ (0 ≤ x ∧ x < 64 ∧ (pickL (l.take k)).contains x = false) → Sp h h' [BoxA a 49 [.int .i64 (spiA c).x, .int .i64 (spiA c).y], OwnA T_int s 1 intv o] →
        ∃ t' : Sl × Nat × List Int, ((⟨s.ptr, s.len, s.cap⟩ : Sl), (k : Int) + 1) = (t'.1, (t'.2.1 : Int)) ∧ (t'.2.1 ≤ l.length ∧ t'.2.2.Perm (pickL (l.take t'.2.1)) ∧ t'.2.2.Pairwise (lessK c) ∧ Sp h h' [BoxA a 49 [.int .i64 (spiA c).x, .int .i64 (spiA c).y], OwnA T_int t'.1 1 intv t'.2.2]) ∧ l.length - t'.2.1 < l.length - k := fun hno H =>
      ⟨(s, k + 1, o), rfl, ⟨by dsimp only; omega, by dsimp only; rw [hs, addOne, if_neg hno]; exact hpm, hpw, H⟩, by dsimp only; omega⟩
    refine join_in (br_dec (fun x0 => skip (by omega) H5) fun x0 => br_dec (fun x1 => skip (by omega) H5) fun x1 => ?_)
    refine (member_spec s o x h5 (H5.seq 1 rfl (fun _ => rfl)) (by omega)).mono ?_
    rintro v h6 ⟨rfl, rfl⟩
    have hcon : (pickL (l.take k)).contains x = decide (x ∈ o) := by rw [List.contains_eq_mem]; exact decide_eq_decide.2 hpm.mem_iff.symm
    refine ⟨_, rfl, br_b (fun e5 => skip (fun hh => by rw [hcon, e5] at hh; cases hh.2.2) H5) fun e5 => ?_⟩
    have hxo : x ∉ o := of_decide_eq_false e5
    have hadd : pickL (l.take (k + 1)) = pickL (l.take k) ++ [x] := by rw [hs, addOne, if_pos ⟨by omega, by omega, by rw [hcon]; exact e5⟩]
    obtain ⟨m, hm⟩ : ∃ m : Nat, x = m := ⟨x.toNat, by omega⟩
    have hm64 : m < 64 := by omega
    have hrange : ∀ j (hj : j < o.length), 0 ≤ o[j] ∧ o[j] < 64 := fun j hj => ((pick_mem l k hk _).1 (hpm.mem_iff.1 (List.getElem_mem hj))).2
    refine join_cut (fun (t : Int) h' => ∃ n : Nat, t = n ∧ n ≤ o.length ∧ (∀ (hh : 0 < n) (hn : n - 1 < o.length), lessK c o[n - 1] x) ∧ (∀ j (hj : j < o.length), n ≤ j → lessK c x o[j]) ∧ Sp h h' [BoxA a 49 [.int .i64 (spiA c).x, .int .i64 (spiA c).y], OwnA T_int s 1 intv o]) ?_ ?_
    · refine loop_inv (fun n : Nat => (n : Int)) (fun n h' => n ≤ o.length ∧ (∀ j (hj : j < o.length), n ≤ j → lessK c x o[j]) ∧ Sp h h' [BoxA a 49 [.int .i64 (spiA c).x, .int .i64 (spiA c).y], OwnA T_int s 1 intv o]) (fun n => n) o.length (by rw [hsl]) ⟨Nat.le_refl _, fun j hj hh => by omega, H5⟩ ?_
      rintro n h8 ⟨hn, hup, H8⟩
      refine br_dec (fun e6 => ?_) (fun e6 => ⟨n, rfl, hn, fun hh => by omega, hup, H8⟩)
      obtain ⟨i, rfl⟩ : ∃ i, n = i + 1 := ⟨n - 1, by omega⟩
      have hi : i < o.length := by omega
      have hi1 : IntKind.wrap .i64 (((i + 1 : Nat) : Int) - 1) = (i : Int) := by rw [Go.Vc.wrap_small _ (by omega) (by omega)]; omega
      rw [hi1]
      have hri := hrange i hi
      obtain ⟨b, hb⟩ : ∃ b : Nat, o[i] = (b : Int) := ⟨(o[i]).toNat, by omega⟩
      have hb64 : b < 64 := by omega
      have hlk : ∀ {p q : Int} {p' q' : Nat}, p = (p' : Int) → q = (q' : Int) → (lessK c p q ↔ farI p' c < farI q' c ∨ (farI p' c = farI q' c ∧ p < q)) := fun hp hq => by subst hp; subst hq; simp only [lessK, Int.toNat_natCast]
      have hneq : x ≠ o[i] := fun hh => hxo (by rw [hh]; exact List.getElem_mem hi)
      refine join_cut (fun (t : Int × Int) h' => t = (farI m c, farI b c) ∧ Sp h h' [BoxA a 49 [.int .i64 (spiA c).x, .int .i64 (spiA c).y], OwnA T_int s 1 intv o]) ?_ ?_
      · have c8 := H8.box 0 rfl
        refine ⟨((spiA c).x, (spiA c).y), c8.cells0 _ rfl, ?_⟩
        refine (H8.seq 1 rfl (fun _ => rfl)).get1A i rfl hi (b : Int) (by rw [hb]; rfl) fun a11 hc11 => ?_
        refine ⟨((spiA c).x, (spiA c).y), c8.cells0 _ rfl, ?_⟩
        rw [hm]
        refine (refAt_spec m h8 hm64).mono ?_
        rintro v h9 ⟨rfl, R9⟩
        have H9 := H8.up R9.pres
        have c9 := H9.box 0 rfl
        have q9 := cell_up hc11 R9.pres
        refine ⟨((spiA m).x, (spiA m).y), rfl, ⟨c9.cell0 rfl, c9.cell rfl, q9, c9.cell0 rfl, c9.cell rfl, trivial⟩, (refFar_spec m c h9 hm64 hc64).mono ?_⟩
        rintro v h10 ⟨rfl, R10⟩
        have H10 := H9.up R10.pres
        have c10 := H10.box 0 rfl
        have q10 := cell_up q9 R10.pres
        refine ⟨_, rfl, ⟨c10.cell0 rfl, c10.cell rfl, q10, trivial⟩, (refAt_spec b h10 hb64).mono ?_⟩
        rintro v h11 ⟨rfl, R11⟩
        have H11 := H10.up R11.pres
        have c11 := H11.box 0 rfl
        refine ⟨((spiA b).x, (spiA b).y), rfl, ⟨c11.cell0 rfl, c11.cell rfl, trivial⟩, (refFar_spec b c h11 hb64 hc64).mono ?_⟩
        rintro v h12 ⟨rfl, R12⟩
        exact ⟨_, rfl, trivial, rfl, H11.up R12.pres⟩
      · rintro t h13 ⟨rfl, H13⟩
        dsimp only
        have next : lessK c x o[i] → ∃ t' : Nat, (i : Int) = (t' : Int) ∧ (t' ≤ o.length ∧ (∀ j (hj : j < o.length), t' ≤ j → lessK c x o[j]) ∧ Sp h h13 [BoxA a 49 [.int .i64 (spiA c).x, .int .i64 (spiA c).y], OwnA T_int s 1 intv o]) ∧ t' < i + 1 := fun hlt =>
          ⟨i, rfl, ⟨by omega, fun j hj hij => by
            by_cases hh : j = i
            · subst hh; exact hlt
            · exact hup j hj (by omega), H13⟩, by omega⟩
        refine br_dec (fun e7 => ?_) (fun e7 => br_eq (fun e8 => ?_) (fun e8 => next ((hlk hm hb).2 (.inl (by omega)))))
        · exact ⟨i + 1, rfl, hn, fun _ _ => (hlk hb hm).2 (.inl (by omega)), hup, H13⟩
        · refine (H13.seq 1 rfl (fun _ => rfl)).get1 i rfl hi _ rfl ?_
          refine br_dec (fun e9 => ?_) (fun e9 => next ((hlk hm hb).2 (.inr ⟨e8, by omega⟩)))
          exact ⟨i + 1, rfl, hn, fun _ _ => (hlk hb hm).2 (.inr ⟨e8.symm, e9⟩), hup, H13⟩
    · rintro t h14 ⟨n, rfl, hn, hlo, hup, H14⟩
      have hsl14 := (H14.own 1 rfl).len
      have hsc14 := (H14.own 1 rfl).cap
      have hpw' := ins_sorted hn hpw (fun hh => hlo hh (by omega)) hup
      have hpm' : (o.take n ++ ([x] ++ o.drop n)).Perm (pickL (l.take (k + 1))) := by
        rw [hadd]; exact (ins_perm o x n).trans (hpm.append_right _)
      refine ⟨⟨Int.natCast_nonneg _, Int.ofNat_le.2 (by omega)⟩, ?_⟩
      rw [Int.toNat_natCast]
      have tk : ∀ {h' : Heap} {As : List HP}, Sp h h' (BoxA a 49 [.int .i64 (spiA c).x, .int .i64 (spiA c).y] :: OwnA T_int s 1 intv o :: As) → Rd h' ⟨s.ptr, n, n⟩ 1 intv (o.take n) := fun H =>
        have q := (H.seq 1 rfl (fun _ => rfl)).take n hn
        ⟨q.len, q.elem⟩
      have done : ∀ {h' : Heap} (z : Sl) {As : List HP}, Sp h h' (BoxA a 49 [.int .i64 (spiA c).x, .int .i64 (spiA c).y] :: OwnA T_int s 1 intv o :: OwnA T_int z 1 intv ([x] ++ o.drop n) :: As) →
          RunsR Try.prog (Builtin.append_ #[T_sl_int, T_sl_int] T_sl_int #[.slice s.ptr n n, .slice z.ptr z.len z.cap]) (.one (.sc .slc)) h' fun v25 h18 => (Held.ok [] h18) ∧
            ∃ t' : Sl × Nat × List Int, ((⟨v25.ptr, v25.len, v25.cap⟩ : Sl), (k : Int) + 1) = (t'.1, (t'.2.1 : Int)) ∧ (t'.2.1 ≤ l.length ∧ t'.2.2.Perm (pickL (l.take t'.2.1)) ∧ t'.2.2.Pairwise (lessK c) ∧ Sp h h18 [BoxA a 49 [.int .i64 (spiA c).x, .int .i64 (spiA c).y], OwnA T_int t'.1 1 intv t'.2.2]) ∧ l.length - t'.2.1 < l.length - k := fun {h'} z As H => by
        have hzl := (H.own 2 rfl).len
        rw [List.length_append, List.length_singleton] at hzl
        have HH : Sp h h' [BoxA a 49 [.int .i64 (spiA c).x, .int .i64 (spiA c).y]] := H.take 0 (fun i A hi => by cases i with | zero => exact hi | succ i => simp at hi)
        refine HH.appendS (s := ⟨s.ptr, n, n⟩) C_ok eInt e_int2 rfl (by decide) (fun _ => rfl) (tk H) (Nat.le_refl _) (by dsimp only; omega) (H.seq 2 rfl (fun _ => rfl)) (by simp; omega) fun y h18 H18 => ⟨trivial, ?_⟩
        exact ⟨(y, k + 1, o.take n ++ ([x] ++ o.drop n)), rfl, ⟨by dsimp only; omega, hpm', hpw', H18⟩, by dsimp only; omega⟩
      refine ⟨?_, ?_⟩
      · refine run_slice3 C_ok eInt n rfl rfl (by omega) ⟨trivial, ?_⟩
        refine H14.lit C_ok intv eInt rfl [x] rfl (show 1 * 1 ≤ 2 ^ 20 by decide) rfl fun z h16 H16 => ⟨trivial, ?_⟩
        refine H16.append C_ok 2 rfl eInt e_int2 rfl (by decide) (fun _ => rfl) ((H16.seq 1 rfl (fun _ => rfl)).drop n hsc14) one_int (by simp; omega) fun z' h17 H17 => ⟨trivial, ?_⟩
        exact done z' H17
      · refine H14.lit C_ok intv eInt rfl [x] rfl (show 1 * 1 ≤ 2 ^ 20 by decide) rfl fun z h16 H16 => ⟨trivial, ?_, ?_⟩
        · refine run_slice3 C_ok eInt n rfl rfl (by omega) ⟨trivial, ?_⟩
          refine H16.append C_ok 2 rfl eInt e_int2 rfl (by decide) (fun _ => rfl) ((H16.seq 1 rfl (fun _ => rfl)).drop n hsc14) one_int (by simp; omega) fun z' h17 H17 => ⟨trivial, ?_⟩
          exact done z' H17
        · refine H16.append C_ok 2 rfl eInt e_int2 rfl (by decide) (fun _ => rfl) ((H16.seq 1 rfl (fun _ => rfl)).drop n hsc14) one_int (by simp; omega) fun z' h17 H17 => ⟨trivial, ?_⟩
          refine run_slice3 C_ok eInt n rfl rfl (by omega) ⟨trivial, ?_⟩
          exact done z' H17
  · have hkl : k = l.length := by omega
    subst hkl
    rw [List.take_length] at hpm
    refine ⟨s, rfl, ?_⟩
    rw [order_unique hc64 hpm hpw]
    exact H5.take 1 (fun i A hi => by cases i with | zero => exact hi | succ i => simp at hi)
end Go.Proofs.Ytpbdnfgjjpgpoaa

namespace Go.Proofs.Ytpbdnfgjjpgpoaa
open Go Go.Vc Go.Proofs Wl
set_option maxRecDepth 100000
/-- A list with spare room of two behind it, in which a mark stands. -/
theorem spare_int_spec (s : Sl) (l : List Int) (mk : Int) (h : Heap) (hl : Rd h s 1 intv l) (hsz : l.length ≤ 2 ^ 30) : Meets Try.prog wellspringkeep_Spare_int_id #[.slice s.ptr s.len s.cap, .int .i64 mk] h fun v h' =>
    ∃ r : Sl, v = .slice r.ptr r.len r.cap ∧ r.len = l.length ∧ r.cap = l.length + 2 ∧ Sp h h' [OwnA T_int ⟨r.ptr, l.length + 2, l.length + 2⟩ 1 intv (l ++ [mk, mk])] := by
  refine wellspringkeep_Spare_int_run s mk ?_
  unfold wellspringkeep_Spare_int_m
  have hlen := hl.len
  rw [Go.Vc.wrap_small _ (by omega) (by omega)]
  refine (Sp.refl h).make C_ok intv eInt (by decide) 0 rfl rfl l.length (l.length + 2) (by omega) (by omega) (by omega) (by omega) fun v h1 hvl hvc H1 => ?_
  refine H1.copy C_ok 0 rfl eInt (fun _ => rfl) (Seq.up hl H1.pres) (by simp) one_int fun h2 H2 => ?_
  refine ⟨⟨by omega, by omega⟩, ?_⟩
  rw [Int.toNat_natCast]
  have H2' : Sp h h2 [OwnA T_int ⟨v.ptr, l.length, v.cap⟩ 1 intv l] := by
    have : v = ⟨v.ptr, l.length, v.cap⟩ := by obtain ⟨a, b, c⟩ := v; simp only at hvl ⊢; rw [hvl]
    rw [← this]; exact H2
  refine loop_inv (fun i : Nat => ((l.length + i : Nat) : Int)) (fun i h' => i ≤ 2 ∧ Sp h h' [OwnA T_int ⟨v.ptr, l.length + i, v.cap⟩ 1 intv (l ++ List.replicate i mk)]) (fun i => 2 - i) 0 (by rw [hlen]; rfl) ⟨by omega, by simpa using H2'⟩ ?_
  rintro i h3 ⟨hi, H3⟩
  have hll : (l ++ List.replicate i mk).length = l.length + i := by simp
  refine br_dec (fun e => ?_) (fun e => ?_)
  · refine H3.pokeGrow C_ok 0 rfl (fun _ => rfl) rfl (by rw [hll]) (by dsimp only; omega) rfl mk rfl rfl rfl fun h4 H4 => ?_
    refine ⟨i + 1, by rw [Go.Vc.wrap_small _ (by omega) (by omega)]; rfl, ⟨by omega, ?_⟩, by omega⟩
    rw [List.append_assoc, ← List.replicate_succ', hll] at H4
    exact H4
  · have hi2 : i = 2 := by omega
    subst hi2
    refine ⟨v, rfl, hvl, hvc, ?_⟩
    rw [hvc] at H3
    exact H3
theorem kept_int_spec (s w : Sl) (l : List Int) (mk : Int) (h : Heap) (hl : Rd h ⟨s.ptr, l.length + 2, l.length + 2⟩ 1 intv (l ++ [mk, mk])) (h1 : s.len = l.length) (h2 : s.cap = l.length + 2) (hw : Rd h w 1 intv l) (hsz : l.length ≤ 2 ^ 30) :
    Meets Try.prog wellspringkeep_Kept_int_id #[.slice s.ptr s.len s.cap, .slice w.ptr w.len w.cap, .int .i64 mk] h fun v h' => v = .bool true ∧ h' = h := by
  refine wellspringkeep_Kept_int_run s w mk ?_
  unfold wellspringkeep_Kept_int_m
  have hs : Rd h s 1 intv l := by
    have := hl.take l.length (by simp)
    rw [List.take_left] at this
    have e : s = ⟨s.ptr, l.length, l.length + 2⟩ := by obtain ⟨a, b, c⟩ := s; simp only at h1 h2 ⊢; rw [h1, h2]
    rw [e]; exact this
  refine ⟨⟨by omega, by omega⟩, (same_int_spec s w l l h hs hw (by omega)).mono ?_⟩
  rintro v h3 ⟨rfl, rfl⟩
  refine ⟨_, rfl, br_not (fun e => absurd e (by simp)) fun _ => ?_⟩
  rw [Int.toNat_natCast]
  refine loop_inv (fun i : Nat => ((l.length + i : Nat) : Int)) (fun i h' => i ≤ 2 ∧ h' = h3) (fun i => 2 - i) 0 (by rw [h1]; rfl) ⟨by omega, rfl⟩ ?_
  rintro i h4 ⟨hi, rfl⟩
  refine br_dec (fun e => ?_) (fun e => ⟨rfl, rfl⟩)
  have hi' : i < 2 := by omega
  rw [h2]
  refine hl.get1 (l.length + i) rfl (by simp; omega) mk ?_ ?_
  · rw [List.getElem_append_right (by omega)]
    rcases (show i = 0 ∨ i = 1 by omega) with rfl | rfl <;> simp [intv]
  · refine br_ne (fun e => absurd rfl e) fun _ => ?_
    exact ⟨i + 1, by rw [Go.Vc.wrap_small _ (by omega) (by omega)]; rfl, ⟨by omega, rfl⟩, by omega⟩

def slotI (x : Int) : Int := if Int.tmod x 9 = 0 then x else x % 64
theorem slots_spec (s : Sl) (l : List Int) (h : Heap) (hl : Rd h s 1 intv l) : Meets Try.prog wellspringlaw25_Slots_id #[.slice s.ptr s.len s.cap, .int .i64 70] h fun v h' => ∃ r : Sl, v = .slice r.ptr r.len r.cap ∧ Sp h h' [OwnA T_int r 1 intv ((l.take 70).map slotI)] := by
  refine wellspringlaw25_Slots_run s 70 ?_
  unfold wellspringlaw25_Slots_m
  have hll := hl.len
  refine join_in ?_
  refine loop_inv (fun t : Sl × Nat => (t.1, (t.2 : Int))) (fun t h' => t.2 ≤ l.length ∧ t.2 ≤ 70 ∧ Sp h h' [OwnA T_int t.1 1 intv ((l.take t.2).map slotI)]) (fun t => 70 - t.2) (⟨none, 0, 0⟩, 0) rfl ⟨by simp, by simp, (Sp.refl h).nil T_int 1 intv⟩ ?_
  rintro ⟨r, k⟩ h1 ⟨hk, hk2, H1⟩
  dsimp only at *
  have fin : (¬ k < l.length ∨ ¬ k < 70) → ∃ r2 : Sl, Value.slice r.ptr r.len r.cap = .slice r2.ptr r2.len r2.cap ∧ Sp h h1 [OwnA T_int r2 1 intv ((l.take 70).map slotI)] := fun hh => by
    refine ⟨r, rfl, ?_⟩
    have : l.take k = l.take 70 := by
      rcases hh with h1 | h1
      · rw [List.take_of_length_le (by omega), List.take_of_length_le (by omega)]
      · rw [show k = 70 by omega]
    rw [← this]; exact H1
  refine join_in (br_dec (fun e1 => br_dec (fun e2 => ?_) (fun e2 => fin (.inr (by omega)))) (fun e1 => fin (.inl (by omega))))
  have hk' : k < l.length := by omega
  have hr := Seq.up hl H1.pres
  have next : ∀ (y : Int) (r' : Sl) (h' : Heap), slotI l[k] = y → Sp h h' [OwnA T_int r' 1 intv ((l.take k).map slotI ++ [y])] → ∃ t' : Sl × Nat, ((⟨r'.ptr, r'.len, r'.cap⟩ : Sl), IntKind.wrap .i64 ((k : Int) + 1)) = (t'.1, (t'.2 : Int)) ∧ (t'.2 ≤ l.length ∧ t'.2 ≤ 70 ∧ Sp h h' [OwnA T_int t'.1 1 intv ((l.take t'.2).map slotI)]) ∧ 70 - t'.2 < 70 - k := fun y r' h' hy H => by
    refine ⟨(r', k + 1), by dsimp only; rw [Go.Vc.wrap_small _ (by omega) (by omega)]; rfl, ⟨by dsimp only; omega, by dsimp only; omega, ?_⟩, by dsimp only; omega⟩
    dsimp only
    rw [take_snoc _ _ hk', List.map_append, List.map_singleton, hy]; exact H
  refine hr.get1 k rfl hk' _ rfl ⟨by decide, ?_⟩
  refine br_eq (fun e5 => ?_) (fun e5 => ?_)
  · refine hr.get1 k rfl hk' _ rfl ?_
    refine H1.push C_ok 0 rfl eInt rfl (by decide) (fun _ => rfl) one_int _ rfl (by decide) (by simp; omega) fun r' h3 H3 => next _ r' h3 ?_ H3
    rw [slotI, if_pos e5]
  · refine hr.get1 k rfl hk' _ rfl ((within_spec _ 64 h1 (by decide) (by decide)).mono ?_)
    rintro v h2 ⟨rfl, rfl⟩
    refine ⟨_, rfl, ?_⟩
    refine H1.push C_ok 0 rfl eInt rfl (by decide) (fun _ => rfl) one_int _ rfl (by decide) (by simp; omega) fun r' h3 H3 => next _ r' h3 ?_ H3
    rw [slotI, if_neg e5]
def prv (p : Int × Int) : List Value := [.int .i64 p.1, .int .i64 p.2]
abbrev eAr : ElemOk C.toCfg 26 25 2 [.int .i64 0, .int .i64 0] 16 := ⟨_, _, rfl, rfl, rfl, rfl, rfl, rfl⟩
set_option maxHeartbeats 4000000 in
theorem ptells_spec (object block : Int) (s : Sl) (l : List Int) (id : Int) (raw : Sl) (rl : List Int) (h : Heap) (hl : Rd h s 1 intv l) (hraw : Rd h raw 1 intv rl) :
    Meets Try.prog wellspringlaw25_PlaceTells_id #[.int .i64 object, .int .i64 block, .slice s.ptr s.len s.cap, .int .i64 id, .slice raw.ptr raw.len raw.cap] h fun v h' => v = .bool true ∧ Pres (fun b => b < h.size) h h' := by
  refine wellspringlaw25_PlaceTells_run object block s id raw ?_
  unfold wellspringlaw25_PlaceTells_m
  refine (slots_spec s l h hl).mono ?_
  rintro v h1 ⟨r, rfl, H1⟩
  obtain ⟨lv, hlv⟩ : ∃ x, x = (l.take 70).map slotI := ⟨_, rfl⟩
  have hll : lv.length ≤ 70 := by rw [hlv]; simp; omega
  rw [← hlv] at H1
  refine ⟨r, rfl, (within_spec object 16777216 h1 (by decide) (by decide)).mono ?_⟩
  rintro v h2 ⟨rfl, rfl⟩
  refine ⟨_, rfl, (within_spec block 8 h2 (by decide) (by decide)).mono ?_⟩
  rintro v h3 ⟨rfl, rfl⟩
  refine ⟨_, rfl, (within_spec object 40 h3 (by decide) (by decide)).mono ?_⟩
  rintro v h4 ⟨rfl, rfl⟩
  refine ⟨_, rfl, (within_spec block 10 h4 (by decide) (by decide)).mono ?_⟩
  rintro v h5 ⟨rfl, rfl⟩
  refine ⟨_, rfl, ?_⟩
  refine H1.lit C_ok prv eAr rfl [(object, block), (object % 16777216, block % 8), (object % 40, IntKind.wrap .i64 (block % 10 - 1))] rfl (show 3 * 2 ≤ 2 ^ 20 by decide) rfl fun z h6 H6 => ?_
  generalize hps : [(object, block), (object % 16777216, block % 8), (object % 40, IntKind.wrap .i64 (block % 10 - 1))] = ps at H6
  have hpl : ps.length = 3 := by rw [← hps]; rfl
  have hzl := (H6.own 1 rfl).len
  refine loop_inv (fun i : Nat => (i : Int)) (fun i h' => i ≤ ps.length ∧ Sp h h' [OwnA T_int r 1 intv lv, OwnA 25 z 2 prv ps]) (fun i => ps.length - i) 0 rfl ⟨by omega, H6⟩ ?_
  rintro i h7 ⟨hi, H7⟩
  refine br_dec (fun e => ?_) (fun e => ?_)
  · have hi' : i < ps.length := by omega
    obtain ⟨a8, hp8, p, hcp, rfl⟩ := (H7.seq 1 rfl (fun _ => rfl)).getk (g := prv) (i := (i : Int)) i rfl hi' ps[i] rfl (K := fun y => y = ps[i]) rfl
    refine ⟨a8, hp8, [ps[i].1, ps[i].2], ⟨rfl, hcp⟩, ?_⟩
    generalize ps[i] = q
    refine H7.alloc C_ok rfl fun y h8 H8 => ?_
    refine H8.storeAll C_ok 2 rfl rfl [.int .i64 q.1, .int .i64 q.2] rfl rfl rfl rfl fun h9 H9 => ?_
    refine (spare_int_spec r lv 71 h9 (H9.seq 0 rfl (fun _ => rfl)) (by omega)).mono ?_
    rintro v h10 ⟨w, rfl, hw1, hw2, R10⟩
    have H10 := H9.comp R10
    refine ⟨w, rfl, ⟨by decide, by decide⟩, q.1, (H10.box 2 rfl).cell (j := 0) rfl, ⟨by decide, by decide⟩, q.2, (H10.box 2 rfl).cell (j := 1) rfl, ?_⟩
    have rdw : Rd h10 w 1 intv lv := by
      have := (H10.seq 3 rfl (fun _ => rfl)).take lv.length (by simp)
      rw [List.take_left] at this
      have e : w = ⟨w.ptr, lv.length, lv.length + 2⟩ := by obtain ⟨a, b, c⟩ := w; simp only at hw1 hw2 ⊢; rw [hw1, hw2]
      rw [e]; exact this
    refine (order_spec q.1 q.2 w lv h10 rdw (by omega)).mono ?_
    rintro v h11 ⟨r14, rfl, R11⟩
    have H11 := H10.comp R11
    refine ⟨r14, rfl, ⟨by decide, by decide⟩, q.1, (H11.box 2 rfl).cell (j := 0) rfl, ⟨by decide, by decide⟩, q.2, (H11.box 2 rfl).cell (j := 1) rfl, ?_⟩
    refine (refOrder_spec q.1 q.2 r lv h11 (H11.seq 0 rfl (fun _ => rfl)) (by omega)).mono ?_
    rintro v h12 ⟨r17, rfl, R12⟩
    have H12 := H11.comp R12
    have hol : (orderP q.1 q.2 lv).length ≤ 70 := by
      unfold orderP
      split
      · have h1 := (order_perm ((8 * q.1 + q.2) % 64).toNat lv).length_eq
        have h2 := pick_len lv lv.length
        rw [List.take_length] at h2
        omega
      · simp
    refine ⟨r17, rfl, (same_int_spec r14 r17 _ _ h12 (H12.seq 4 rfl (fun _ => rfl)) (H12.seq 5 rfl (fun _ => rfl)) (by omega)).mono ?_⟩
    rintro v h13 ⟨rfl, rfl⟩
    rw [decide_eq_true rfl]
    refine ⟨_, rfl, br_not (fun e3 => by cases e3) fun _ => ?_⟩
    refine (kept_int_spec w r lv 71 h13 (H12.seq 3 rfl (fun _ => rfl)) hw1 hw2 (H12.seq 0 rfl (fun _ => rfl)) (by omega)).mono ?_
    rintro v h14 ⟨rfl, rfl⟩
    refine ⟨_, rfl, br_not (fun e3 => by cases e3) fun _ => ?_⟩
    exact ⟨i + 1, by rw [Go.Vc.wrap_small _ (by omega) (by omega)]; rfl, ⟨by omega, (((H12.del 5).del 4).del 3).del 2⟩, by omega⟩
  have hr7 := Seq.up hraw H7.pres
  refine (of_spec raw rl id h7 hr7).mono ?_
  rintro v h15 ⟨rfl, rfl⟩
  refine ⟨_, rfl, (refOf_spec raw rl id h15 hr7).mono ?_⟩
  rintro v h16 ⟨rfl, rfl⟩
  refine ⟨_, rfl, br_eq (fun _ => ?_) (fun e3 => absurd rfl e3)⟩
  refine (within_spec id 1000 h16 (by decide) (by decide)).mono ?_
  rintro v h17 ⟨rfl, rfl⟩
  refine ⟨_, rfl, (of_spec r lv _ h17 (H7.seq 0 rfl (fun _ => rfl))).mono ?_⟩
  rintro v h18 ⟨rfl, rfl⟩
  refine ⟨_, rfl, (within_spec id 1000 h18 (by decide) (by decide)).mono ?_⟩
  rintro v h19 ⟨rfl, rfl⟩
  refine ⟨_, rfl, (refOf_spec r lv _ h19 (H7.seq 0 rfl (fun _ => rfl))).mono ?_⟩
  rintro v h20 ⟨rfl, rfl⟩
  refine ⟨_, rfl, br_eq (fun _ => ?_) (fun e3 => absurd rfl e3)⟩
  refine (wakes_spec h20).mono ?_
  rintro v h21 ⟨rfl, R21⟩
  exact ⟨_, rfl, rfl, (H7.comp R21).pres⟩
end Go.Proofs.Ytpbdnfgjjpgpoaa
