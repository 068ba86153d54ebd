/- Part of the proofs that wellspringlaw25's laws answer true whatever the input reads, and leave it as it was; no condition. -/
import Derived.Test.YtpbdnfgjjpgpoaaKA
set_option linter.unusedVariables false
set_option linter.unusedSimpArgs false
namespace Go.Proofs.Ytpbdnfgjjpgpoaa
open Go Go.Vc Go.Proofs Wl
set_option maxRecDepth 100000
def liveL (l : List Int) : List Int := (l.take 70).map (· % 64)
theorem live_in (l : List Int) : ∀ x ∈ liveL l, 0 ≤ x ∧ x < 64 := fun x hx => by
  obtain ⟨y, _, rfl⟩ := List.mem_map.1 hx
  omega
theorem live_len (l : List Int) : (liveL l).length ≤ 70 := by simp [liveL]; omega
theorem ofI_pos {o : List Int} {i : Int} (ho : o ≠ []) (hi : 0 ≤ i) : ofI o i = getI' o (i % (o.length : Int)).toNat := by
  rw [ofI, if_neg]
  rintro (h | h)
  · exact ho h
  · omega
theorem mod_lt' {o : List Int} (ho : o ≠ []) (i : Int) : 0 ≤ i % (o.length : Int) ∧ i % (o.length : Int) < o.length := by
  have : 0 < o.length := List.length_pos_iff.2 ho
  exact ⟨Int.emod_nonneg _ (by omega), Int.emod_lt_of_pos _ (by omega)⟩
theorem getI'_lt {o : List Int} {i : Nat} (h : i < o.length) : getI' o i = o[i] := by rw [getI', List.getD_eq_getElem?_getD, List.getElem?_eq_getElem h]; rfl
theorem ofI_mem {o : List Int} {i : Int} (ho : o ≠ []) (hi : 0 ≤ i) : ofI o i ∈ o := by
  have := mod_lt' ho i
  rw [ofI_pos ho hi, getI'_lt (by omega)]; exact List.getElem_mem _
theorem ofI_ne {o : List Int} (ho : o ≠ []) (hd : o.Nodup) {i : Int} (hi : 0 ≤ i) {j k : Nat} (hjk : j < k) (hk : k < o.length) : ofI o (i + j) ≠ ofI o (i + k) := by
  have a := mod_lt' ho (i + j)
  have b := mod_lt' ho (i + k)
  rw [ofI_pos ho (by omega), ofI_pos ho (by omega), getI'_lt (by omega), getI'_lt (by omega)]
  rw [List.nodup_iff_pairwise_ne, List.pairwise_iff_getElem] at hd
  have hne : (i + (j : Int)) % (o.length : Int) ≠ (i + (k : Int)) % (o.length : Int) := by
    intro e
    have h1 := Int.emod_emod_of_dvd (i + k - (i + j)) (Int.dvd_refl (o.length : Int))
    have h2 := Int.emod_eq_emod_iff_emod_sub_eq_zero.1 e.symm
    rw [show i + (k : Int) - (i + (j : Int)) = ((k - j : Nat) : Int) by omega, Int.emod_eq_of_lt (by omega) (by omega)] at h2
    omega
  rcases Nat.lt_trichotomy ((i + (j : Int)) % (o.length : Int)).toNat ((i + (k : Int)) % (o.length : Int)).toNat with h | h | h
  · exact hd _ _ _ _ h
  · omega
  · exact fun e => hd _ _ _ _ h e.symm
theorem live_loop {R : Sl → Heap → Prop} {h h2 : Heap} {s : Sl} {l : List Int} (hl : Rd h s 1 intv l) (H2 : Sp h h2 []) (hk : ∀ r h', Sp h h' [OwnA T_int r 1 intv (liveL l)] → R r h') :
  LoopM (σ := Sl × Int) (fun s3 K2 h3 =>
  JoinM (σ := Unit) (fun _ h4 =>
  ∃ a5 : Addr, (s.ptr = some a5 ∧ 0 ≤ s3.2 ∧ s3.2 < ((s.len : Nat) : Int)) ∧
  ∃ x6 : Int, cellOf h4 (a5.add (s3.2.toNat * 1)) = some (.int .i64 x6) ∧
  CallM Try.prog 7 #[(.int .i64 x6), (.int .i64 (64 : Int))] (.one (.sc (.int .i64))) h4 fun r7 h5 =>
  RunsR Try.prog (Instr.buildSlice 22 1 #[(0, (.int .i64 r7))]) (.one (.sc .slc)) h5 fun v8 h6 =>
  RunsR Try.prog (Builtin.append_ #[22, 22] 22 #[(.slice s3.1.ptr s3.1.len s3.1.cap), (.slice v8.ptr v8.len v8.cap)]) (.one (.sc .slc)) h6 fun v9 h7 =>
  K2 ((⟨v9.ptr, v9.len, v9.cap⟩ : Sl), IntKind.wrap .i64 (s3.2 + (1 : Int))) h7)
  (fun K3 =>
  Br (decide (s3.2 < ((s.len : Nat) : Int))) (Br (decide (s3.2 < (70 : Int)))
  (K3 () h3)
  (R (⟨s3.1.ptr, s3.1.len, s3.1.cap⟩ : Sl) h3)) (R (⟨s3.1.ptr, s3.1.len, s3.1.cap⟩ : Sl) h3))) ((⟨none, 0, 0⟩ : Sl), (0 : Int)) h2 := by
  have hll := hl.len
  refine loop_inv (fun t : Sl × Nat => (t.1, (t.2 : Int))) (fun t h' => t.2 ≤ l.length ∧ t.2 ≤ 70 ∧ Sp h h' [OwnA T_int t.1 1 intv ((l.take t.2).map (· % 64))]) (fun t => 70 - t.2) (⟨none, 0, 0⟩, 0) rfl ⟨by simp, by simp, H2.nil T_int 1 intv⟩ ?_
  rintro ⟨r, k⟩ h3 ⟨hk1, hk2, H3⟩
  dsimp only at *
  have fin : (¬ k < l.length ∨ ¬ k < 70) → R r h3 := fun hh => by
    refine hk r h3 ?_
    have : l.take k = l.take 70 := by
      rcases hh with h1 | h1
      · rw [List.take_of_length_le (by omega), List.take_of_length_le (by omega)]
      · rw [show k = 70 by omega]
    rw [liveL, ← this]; exact H3
  refine join_in (br_dec (fun e1 => br_dec (fun e2 => ?_) (fun e2 => fin (.inr (by omega)))) (fun e1 => fin (.inl (by omega))))
  have hk' : k < l.length := by omega
  refine (Seq.up hl H3.pres).get1 k rfl hk' _ rfl ?_
  refine (within_spec _ 64 h3 (by decide) (by decide)).mono ?_
  rintro v h5 ⟨rfl, rfl⟩
  refine ⟨_, rfl, ?_⟩
  refine H3.push C_ok 0 rfl eInt rfl (by decide) (fun _ => rfl) one_int _ rfl (by decide) (by simp; omega) fun r' h6 H6 => ?_
  refine ⟨(r', k + 1), by dsimp only; rw [Go.Vc.wrap_small _ (by omega) (by omega)]; rfl, ⟨by dsimp only; omega, by dsimp only; omega, ?_⟩, by dsimp only; omega⟩
  dsimp only
  rw [take_snoc _ _ hk', List.map_append]
  exact H6
set_option maxHeartbeats 2000000 in
theorem spreads_spec (object block : Int) (s : Sl) (l : List Int) (id : Int) (h : Heap) (hl : Rd h s 1 intv l) :
    Meets Try.prog wellspringlaw25_PlaceSpreads_id #[.int .i64 object, .int .i64 block, .slice s.ptr s.len s.cap, .int .i64 id] h fun v h' => v = .bool true ∧ Pres (fun b => b < h.size) h h' := by
  refine wellspringlaw25_PlaceSpreads_run object block s id ?_
  unfold wellspringlaw25_PlaceSpreads_m
  refine (within_spec object 16777216 h (by decide) (by decide)).mono ?_
  rintro v h1 ⟨rfl, rfl⟩
  refine ⟨_, rfl, (within_spec block 8 h1 (by decide) (by decide)).mono ?_⟩
  rintro v h2 ⟨rfl, rfl⟩
  refine ⟨_, rfl, join_cut (fun r h' => Sp h2 h' [OwnA T_int r 1 intv (liveL l)]) (live_loop hl (Sp.refl h2) fun r h' H => H) ?_⟩
  rintro lv h8 H8
  have hlv := live_len l
  have hlin := live_in l
  have hlvl := (H8.own 0 rfl).len
  obtain ⟨ob, hob⟩ : ∃ x, x = object % 16777216 := ⟨_, rfl⟩
  obtain ⟨bk, hbk⟩ : ∃ x, x = block % 8 := ⟨_, rfl⟩
  dsimp only
  rw [← hob, ← hbk]
  refine (order_spec ob bk lv (liveL l) h8 (H8.seq 0 rfl (fun _ => rfl)) (by omega)).mono ?_
  rintro v h9 ⟨r, rfl, R9⟩
  rw [orderP, if_pos (by omega)] at R9
  have H9 := H8.comp R9
  obtain ⟨c, hc⟩ : ∃ c, c = ((8 * ob + bk) % 64).toNat := ⟨_, rfl⟩
  obtain ⟨o, ho⟩ : ∃ o, o = orderL c (liveL l) := ⟨_, rfl⟩
  have hom : ∀ x, x ∈ o ↔ x ∈ liveL l := fun x => by rw [ho, order_mem]; exact ⟨fun h => h.1, fun h => ⟨h, hlin x h⟩⟩
  have hod : o.Nodup := by rw [ho]; exact order_nd _ _
  have hol : o.length ≤ 70 := by
    have h1 := (order_perm c (liveL l)).length_eq
    have h2 := pick_len (liveL l) (liveL l).length
    rw [List.take_length] at h2
    rw [ho, h1]; omega
  rw [← hc, ← ho] at H9
  have hrl := (H9.own 1 rfl).len
  have hro := H9.seq 1 rfl (fun _ => rfl)
  refine ⟨r, rfl, br_eq (fun e => ?_) (fun e => ?_)⟩
  · have hon : o = [] := List.eq_nil_of_length_eq_zero (by omega)
    have hln : liveL l = [] := order_len_nil (by rw [← ho]; exact hon) hlin
    refine br_eq (fun _ => ?_) (fun e2 => absurd (by rw [hlvl, hln]; rfl) e2)
    refine (of_spec r o id h9 hro).mono ?_
    rintro v h10 ⟨rfl, rfl⟩
    rw [ofI, if_pos (.inl hon)]
    refine ⟨_, rfl, br_eq (fun _ => ?_) (fun e2 => absurd rfl e2)⟩
    refine (wakes_spec h10).mono ?_
    rintro v h11 ⟨rfl, R11⟩
    exact ⟨_, rfl, rfl, (H9.comp R11).pres⟩
  have hon : o ≠ [] := fun hh => e (by rw [hrl, hh]; rfl)
  refine (within_spec id 60000 h9 (by decide) (by decide)).mono ?_
  rintro v h12 ⟨rfl, rfl⟩
  obtain ⟨i0, hi0⟩ : ∃ x, x = id % 60000 := ⟨_, rfl⟩
  have hi : 0 ≤ i0 ∧ i0 < 60000 := by omega
  refine ⟨_, rfl, ?_⟩
  rw [← hi0]
  refine loop_inv (fun t : Sl × Nat => (t.1, (t.2 : Int))) (fun t h' => t.2 ≤ o.length ∧ Sp h2 h' [OwnA T_int lv 1 intv (liveL l), OwnA T_int r 1 intv o, OwnA T_int t.1 1 intv ((List.range t.2).map fun j : Nat => ofI o (i0 + (j : Int)))]) (fun t => o.length - t.2) (⟨none, 0, 0⟩, 0) rfl ⟨by simp, H9.nil T_int 1 intv⟩ ?_
  rintro ⟨g, k⟩ h13 ⟨hk, H13⟩
  dsimp only at *
  have hr13 := H13.seq 1 rfl (fun _ => rfl)
  refine br_dec (fun e2 => ?_) (fun e2 => ?_)
  · have hk' : k < o.length := by omega
    rw [Go.Vc.wrap_small (i0 + k) (by omega) (by omega)]
    refine (of_spec r o _ h13 hr13).mono ?_
    rintro v h14 ⟨rfl, rfl⟩
    refine ⟨_, rfl, join_in ?_⟩
    refine (member_spec g _ (ofI o (i0 + k)) h14 (H13.seq 2 rfl (fun _ => rfl)) (by simp; omega)).mono ?_
    rintro v h15 ⟨rfl, rfl⟩
    have hnot : ofI o (i0 + (k : Int)) ∉ (List.range k).map fun j : Nat => ofI o (i0 + (j : Int)) := by
      intro hm
      obtain ⟨j, hj, e3⟩ := List.mem_map.1 hm
      exact ofI_ne hon hod hi.1 (List.mem_range.1 hj) hk' e3
    rw [decide_eq_false hnot]
    refine ⟨_, rfl, br_b (fun e3 => by cases e3) fun _ => ?_⟩
    refine (member_spec lv _ (ofI o (i0 + k)) h15 (H13.seq 0 rfl (fun _ => rfl)) (by omega)).mono ?_
    rintro v h16 ⟨rfl, rfl⟩
    rw [decide_eq_true ((hom _).1 (ofI_mem hon (by omega)))]
    refine ⟨_, rfl, br_not (fun e3 => by cases e3) fun _ => ?_⟩
    refine H13.push C_ok 2 rfl eInt rfl (by decide) (fun _ => rfl) one_int _ rfl (by decide) (by simp; omega) fun g' h17 H17 => ?_
    refine ⟨(g', k + 1), by dsimp only; rw [Go.Vc.wrap_small _ (by omega) (by omega)]; rfl, ⟨by dsimp only; omega, ?_⟩, by dsimp only; omega⟩
    dsimp only
    rw [List.range_succ, List.map_append]
    exact H17
  refine (of_spec r o _ h13 hr13).mono ?_
  rintro v h20 ⟨rfl, rfl⟩
  rw [Go.Vc.wrap_small (i0 + (r.len : Int)) (by omega) (by omega)]
  refine ⟨_, rfl, (of_spec r o _ h20 hr13).mono ?_⟩
  rintro v h21 ⟨rfl, rfl⟩
  have esame : ofI o (i0 + (r.len : Int)) = ofI o i0 := by rw [ofI_pos hon (by omega), ofI_pos hon hi.1, hrl, Int.add_emod_right]
  rw [esame]
  refine ⟨_, rfl, br_eq (fun _ => ?_) (fun e3 => absurd rfl e3)⟩
  rw [Go.Vc.wrap_small (-1 - i0) (by omega) (by omega)]
  refine (of_spec r o _ h21 hr13).mono ?_
  rintro v h22 ⟨rfl, rfl⟩
  rw [ofI, if_pos (.inr (by omega))]
  refine ⟨_, rfl, br_eq (fun _ => ?_) (fun e3 => absurd rfl e3)⟩
  refine (wakes_spec h22).mono ?_
  rintro v h23 ⟨rfl, R23⟩
  exact ⟨_, rfl, rfl, (H13.comp R23).pres⟩
end Go.Proofs.Ytpbdnfgjjpgpoaa
