/- Part of the proofs that wellspringlaw14's laws answer true whatever the input reads, and leave it as it was; no condition. -/
import Derived.Test.YtkcplnfomahleaaGreatDoorRFA
import Derived.Test.YtkcplnfomahleaaGreatDoorPlA
import Derived.Test.YtkcplnfomahleaaGreatDoorKA
import Derived.Test.YtkcplnfomahleaaGreatDoorKC
set_option linter.unusedVariables false
set_option linter.unusedSimpArgs false
namespace Go.Proofs.YtkcplnfomahleaaGreatDoor
open Go Go.Vc Go.Proofs Wl
set_option maxRecDepth 100000
theorem take3 {B : Blocks} {h0 h : Heap} {A0 A1 A2 : HP} {As : List HP} (H : SpB B h0 h (A0 :: A1 :: A2 :: As)) : SpB B h0 h [A0, A1, A2] :=
  H.take 0 fun i A hi => by
    rw [Nat.zero_add]
    match i, hi with
    | 0, hi => exact hi
    | 1, hi => exact hi
    | 2, hi => exact hi
    | k + 3, hi => simp at hi
end Go.Proofs.YtkcplnfomahleaaGreatDoor
namespace Go.Proofs.YtkcplnfomahleaaGreatDoor
open Go Go.Vc Go.Proofs Wl
set_option maxRecDepth 100000
theorem row_getG {m : Mat} {i : Nat} (h : i < m.length) : rowB m i = m[i] := row_lt h
theorem refLead_spec (a : Sl) (l : Row) (h : Heap) (ha : Rd h a 1 u8v l) (hl : l.length ≤ 2 ^ 30) : Meets Tryz.prog wellspringref01_Lead_id #[.slice a.ptr a.len a.cap] h fun v h' => v = .int .i64 (if leadB l < l.length then (leadB l : Int) else -1) ∧ h' = h := by
  refine wellspringref01_Lead_run a ?_
  unfold wellspringref01_Lead_m
  have hal := ha.len
  refine loop_inv (fun i : Nat => (i : Int)) (fun i h' => h' = h ∧ i ≤ l.length ∧ ∀ j (hj : j < l.length), j < i → l[j] = 0) (fun i => l.length - i) 0 rfl ⟨rfl, by omega, fun j _ hj => by omega⟩ ?_
  rintro i h1 ⟨rfl, hi, hno⟩
  refine br_dec (fun e => ?_) (fun e => ?_)
  · have hi' : i < l.length := by omega
    refine ha.get1 i rfl hi' _ rfl ?_
    refine br_ne (fun e2 => ?_) (fun e2 => ?_)
    · have hx : l[i] ≠ 0 := fun hh => e2 (by rw [hh]; rfl)
      have hld : leadB l = i := by
        rw [leadB, List.findIdx_eq hi']
        exact ⟨by simpa using hx, fun j hj => by simp [hno j (by omega) hj]⟩
      rw [hld, if_pos hi']; exact ⟨rfl, rfl⟩
    · refine ⟨i + 1, by rw [Go.Vc.wrap_small _ (by omega) (by omega)]; rfl, ⟨rfl, by omega, fun j hj hji => ?_⟩, by omega⟩
      rcases Nat.lt_succ_iff_lt_or_eq.1 hji with h3 | rfl
      · exact hno j hj h3
      · exact nat0.1 e2
  · have hno' : ¬ leadB l < l.length := by
      rw [leadB, List.findIdx_lt_length]
      rintro ⟨x, hx, hx0⟩
      obtain ⟨j, hj, rfl⟩ := List.getElem_of_mem hx
      rw [hno j hj (by omega)] at hx0; simp at hx0
    rw [if_neg hno']; exact ⟨rfl, rfl⟩
set_option maxHeartbeats 8000000 in
theorem refSolveG_spec (a b : Sl) (A Bm : Mat) (m n w : Nat) (h : Heap) (ha : Rd2 h a 1 u8v A) (hb : Rd2 h b 1 u8v Bm) (hl : A.length = m) (hlb : Bm.length = m) (hm1 : 1 ≤ m) (hm2 : m ≤ 2 ^ 20) (hA : evenB n A) (hB : evenB w Bm) (hn1 : 1 ≤ n) (hn : n + w ≤ 64) :
    Meets Tryz.prog wellspringref01_Solve_id #[.slice a.ptr a.len a.cap, .slice b.ptr b.len b.cap] h fun v h' => (rankB A ≠ n ∧ v = .tuple #[.slice none 0 0, .int .i64 9] ∧ Sp h h' []) ∨ (rankB A = n ∧ calmB n A Bm ∧ ∃ r : Sl, v = .tuple #[.slice r.ptr r.len r.cap, .int .i64 0] ∧ Sp h h' [RowsA T_sl_uint8 r 1 u8v (solB n A Bm)]) ∨ (rankB A = n ∧ ¬ calmB n A Bm ∧ v = .tuple #[.slice none 0 0, .int .i64 10] ∧ Sp h h' []) := by
  have hlen : Bm.length = A.length := by omega
  have hla := ha.len; have hlb' := hb.len
  refine wellspringref01_Solve_run a b ?_
  unfold wellspringref01_Solve_m
  refine join_in ?_
  refine (refMayMat_spec a A n h ha hA (by omega) (by omega)).mono ?_
  rintro v h1 ⟨rfl, rfl⟩
  refine ⟨_, rfl, br_not (fun e => by cases e) fun _ => ?_⟩
  refine (refMayMat_spec b Bm w h1 hb hB (by omega) (by omega)).mono ?_
  rintro v h2 ⟨rfl, rfl⟩
  refine ⟨_, rfl, br_not (fun e => by cases e) fun _ => ?_⟩
  refine br_ne (fun e => absurd (by rw [hla, hlb', hlen]) e) fun _ => ?_
  refine br_eq (fun e => by omega) fun _ => ?_
  refine ha.get 0 rfl (by omega) fun r0 hr0 => ?_
  have hr0l := hr0.len
  rw [hA _ (List.getElem_mem _)] at hr0l
  rw [hr0l]
  refine (refRank_spec a A n h2 ha hA (by omega) (by omega)).mono ?_
  rintro v h4 ⟨rfl, R4⟩
  have hrn := rank_le_cols hA
  refine ⟨_, rfl, br_dec (fun e => .inl ⟨fun hh => ?_, rfl, .zip R4.pres⟩) fun e0 => ?_⟩
  · have e' : (rankB A : Int) < (n : Int) := e
    omega
  have hr : rankB A = n := by
    have e' : ¬ (rankB A : Int) < (n : Int) := e0
    omega
  have hnm : n ≤ m := by have := rank_le_rows A hA; omega
  obtain ⟨M, hM⟩ : ∃ M, M = augB A Bm := ⟨_, rfl⟩
  have hMl : M.length = m := by rw [hM, aug_len (by omega)]; exact hl
  have hMe : evenB (n + w) M := by rw [hM]; exact aug_even (by omega) hA hB
  have hMk : ∀ k (hk : k < m), (M[k]'(by omega)).take n = A[k]'(by omega) ∧ (M[k]'(by omega)).drop n = Bm[k]'(by omega) := fun k hk => by
    have h1 : (A[k]'(by omega)).length = n := hA _ (List.getElem_mem _)
    have e : M[k]'(by omega) = A[k]'(by omega) ++ Bm[k]'(by omega) := by
      subst hM; simp [augB]
    rw [e, List.take_left' h1, List.drop_left' h1]; exact ⟨rfl, rfl⟩
  have hfull : (reduceB M n).1 = n := by rw [hM, aug_rank (by omega) hA]; exact hr
  obtain ⟨rsA, hqA⟩ := ha
  obtain ⟨rsB, hqB⟩ := hb
  have H4 := (((Sp.refl h2).up R4.pres).nil T_sl_uint8 1 slv).nil T_sl_uint8 1 slv |>.pool0
  refine loop_inv (fun t : Sl × Sl × Nat × List Sl × List Sl × List (Sl × Row) => (t.1, t.2.1, (t.2.2.1 : Int)))
    (fun t h' => t.2.2.1 ≤ m ∧ Sp h2 h' [OwnA T_sl_uint8 t.1 1 slv t.2.2.2.1, OwnA T_sl_uint8 t.2.1 1 slv t.2.2.2.2.1, PoolA t.2.2.2.2.2] ∧ inPool t.2.2.2.2.2 (List.take n) t.2.2.2.1 (M.take t.2.2.1) ∧ inPool t.2.2.2.2.2 (List.drop n) t.2.2.2.2.1 (M.take t.2.2.1))
    (fun t => m - t.2.2.1) (⟨none, 0, 0⟩, ⟨none, 0, 0⟩, 0, [], [], []) rfl ⟨by simp, H4, inPool.nil _ _, inPool.nil _ _⟩ ?_
  rintro ⟨s, t, k, rs, qs, pool⟩ h5 ⟨hk, H5, ip, iq⟩
  dsimp only at *
  have hrsl : rs.length = k := by rw [ip.1, List.length_take]; omega
  have hqsl : qs.length = k := by rw [iq.1, List.length_take]; omega
  refine br_dec (fun e => ?_) (fun e => ?_)
  · have hk' : k < m := by omega
    obtain ⟨mt, md⟩ := hMk k hk'
    have lA : (A[k]'(by omega)).length = n := hA _ (List.getElem_mem _)
    have lB : (Bm[k]'(by omega)).length = w := hB _ (List.getElem_mem _)
    obtain ⟨a8, hp8, x9, hc9, hs9⟩ := hqA.getA (K := fun _ r => Rd h2 r 1 u8v (A[k]'(by omega))) (i := (k : Int)) k rfl (by omega) fun _ _ _ hs _ => hs
    obtain ⟨a10, hp10, x11, hc11, hs11⟩ := hqB.getA (K := fun _ r => Rd h2 r 1 u8v (Bm[k]'(by omega))) (i := (k : Int)) k rfl (by omega) fun _ _ _ hs _ => hs
    refine ⟨a8, hp8, x9, held_up hc9 H5.pres, a10, hp10, x11, held_up hc11 H5.pres, ?_⟩
    have H6 := H5.nil T_uint8 1 u8v
    refine H6.append C_ok 3 rfl eU8 ⟨_, _, rfl, rfl⟩ rfl (by decide) (fun _ => rfl) (Seq.up hs9 H6.pres) one_u8 (by simp; omega) fun v12 h7 H7 => ⟨⟨held_up hc11 H7.pres, trivial⟩, ?_⟩
    refine H7.lit C_ok slv eSlU8 rfl [v12] rfl (show 1 * 1 ≤ 2 ^ 20 by decide) rfl fun v13 h8 H8 => ⟨⟨held_up hc11 H8.pres, trivial⟩, ?_⟩
    refine H8.append C_ok 0 rfl eSlU8 ⟨_, _, rfl, rfl⟩ rfl (by decide) (fun _ => rfl) (H8.seq 4 rfl (fun _ => rfl)) one_sl (by simp; omega) fun s' h9 H9 => ⟨⟨held_up hc11 H9.pres, trivial⟩, ?_⟩
    have H10 := H9.nil T_uint8 1 u8v
    refine H10.append C_ok 5 rfl eU8 ⟨_, _, rfl, rfl⟩ rfl (by decide) (fun _ => rfl) (Seq.up hs11 H10.pres) one_u8 (by simp; omega) fun v15 h11 H11 => ⟨trivial, ?_⟩
    refine H11.lit C_ok slv eSlU8 rfl [v15] rfl (show 1 * 1 ≤ 2 ^ 20 by decide) rfl fun v16 h12 H12 => ⟨trivial, ?_⟩
    refine H12.append C_ok 1 rfl eSlU8 ⟨_, _, rfl, rfl⟩ rfl (by decide) (fun _ => rfl) (H12.seq 6 rfl (fun _ => rfl)) one_sl (by simp; omega) fun t' h13 H13 => ⟨trivial, ?_⟩
    have H14 := (((H13.freeze 3 rfl (fun _ => rfl)).freeze 5 rfl (fun _ => rfl)).pool 2 3 (by decide) rfl rfl).pool 2 5 (by decide) rfl rfl
    refine ⟨(s', t', k + 1, rs ++ [v12], qs ++ [v15], (v15, Bm[k]'(by omega)) :: (v12, A[k]'(by omega)) :: pool), by dsimp only; rw [Go.Vc.wrap_small _ (by omega) (by omega)]; rfl, ⟨by dsimp only; omega, take3 H14, ?_, ?_⟩, by dsimp only; omega⟩
    · dsimp only
      rw [take_snoc _ _ (show k < M.length by omega)]
      exact (ip.mono fun x hx => List.mem_cons_of_mem _ (List.mem_cons_of_mem _ hx)).snoc (by rw [mt]; simp)
    · dsimp only
      rw [take_snoc _ _ (show k < M.length by omega)]
      exact (iq.mono fun x hx => List.mem_cons_of_mem _ (List.mem_cons_of_mem _ hx)).snoc (by rw [md]; simp)
  have hkn : k = m := by omega
  subst hkn
  rw [List.take_of_length_le (by omega)] at ip iq
  have hsl := (H5.own 0 rfl).len
  have htl := (H5.own 1 rfl).len
  have htc := (H5.own 1 rfl).cap
  refine loop_inv (fun t : Nat × List Sl × List Sl × List (Sl × Row) => (t.1 : Int))
    (fun u h' => u.1 ≤ n ∧ Sp h2 h' [OwnA T_sl_uint8 s 1 slv u.2.1, OwnA T_sl_uint8 t 1 slv u.2.2.1, PoolA u.2.2.2] ∧ inPool u.2.2.2 (List.take n) u.2.1 (reduceB M u.1).2 ∧ inPool u.2.2.2 (List.drop n) u.2.2.1 (reduceB M u.1).2)
    (fun u => n - u.1) (0, rs, qs, pool) rfl ⟨by simp, H5, ip, iq⟩ ?_
  rintro ⟨c, rs1, qs1, pool1⟩ h12 ⟨hc, H12, ip1, iq1⟩
  dsimp only at *
  have hev := reduce_even hMe c
  obtain ⟨m1, hm1⟩ : ∃ m1, m1 = (reduceB M c).2 := ⟨_, rfl⟩
  rw [← hm1] at ip1 iq1 hev
  have hl1 : m1.length = k := by rw [hev.2]; exact hMl
  have r1l := ip1.1
  have q1l := iq1.1
  refine br_dec (fun e => ?_) (fun e => ?_)
  · have hck : c < n := by omega
    obtain ⟨ix, hbe, hst⟩ := full_step hfull hck
    rw [← hm1] at hbe hst
    have hbs := begins_some hbe
    have rl1 : ∀ j (hj : j < k), (m1[j]'(by omega)).length = n + w := fun j hj => hev.1 _ (List.getElem_mem _)
    refine loop_inv (fun j : Nat => (j : Int)) (fun j h' => h' = h12 ∧ c ≤ j ∧ j ≤ ix) (fun j => ix - j) c rfl ⟨rfl, Nat.le_refl _, hbs.1⟩ ?_
    rintro j h13 ⟨rfl, hj1, hj2⟩
    have hjk : j < k := by omega
    have hs0 := H12.seq 0 rfl (fun _ => rfl)
    refine hs0.getS j rfl (by omega) fun _ _ _ => ?_
    have hrow := H12.poolRd 2 rfl (ip1.get (show j < m1.length by omega))
    have hcj : ((m1[j]'(by omega)).take n)[c]'(by rw [List.length_take, rl1 j hjk]; omega) = colB (rowB m1 j) c := by
      rw [List.getElem_take, row_lt (by omega), col_lt (by rw [rl1 j hjk]; omega)]
    refine hrow.get1 c rfl (by rw [List.length_take, rl1 j hjk]; omega) _ rfl ?_
    rw [hcj]
    refine br_eq (fun e0 => ?_) (fun e0 => ?_)
    · have : j ≠ ix := fun hh => hbs.2.2 (by rw [← hh]; exact nat0.1 e0)
      exact ⟨j + 1, by rw [Go.Vc.wrap_small _ (by omega) (by omega)]; rfl, ⟨rfl, by omega, by omega⟩, by omega⟩
    have hji : j = ix := by
      by_cases hh : j < ix
      · exact absurd (by rw [begins_first hbe hj1 hh]; rfl) e0
      · omega
    subst hji
    refine join_in ?_
    have ht0 := H12.seq 1 rfl (fun _ => rfl)
    refine hs0.getS c rfl (by omega) fun _ _ _ => ?_
    refine hs0.getS j rfl (by omega) fun _ _ _ => ?_
    refine ht0.getS c rfl (by omega) fun _ _ _ => ?_
    refine ht0.getS j rfl (by omega) fun _ _ _ => ?_
    refine H12.set C_ok 0 rfl (fun _ => rfl) rfl j rfl (by omega) (rs1[c]'(by omega)) rfl rfl rfl fun h14 H14 => ⟨trivial, ?_⟩
    refine H14.set C_ok 0 rfl (fun _ => rfl) rfl c rfl (by simp; omega) (rs1[j]'(by omega)) rfl rfl rfl fun h15 H15 => ⟨trivial, ?_⟩
    refine H15.set C_ok 1 rfl (fun _ => rfl) rfl j rfl (by omega) (qs1[c]'(by omega)) rfl rfl rfl fun h16 H16 => ⟨trivial, ?_⟩
    refine H16.set C_ok 1 rfl (fun _ => rfl) rfl c rfl (by simp; omega) (qs1[j]'(by omega)) rfl rfl rfl fun h17 H17 => ⟨trivial, ?_⟩
    obtain ⟨m2, hm2⟩ : ∃ m2, m2 = swapB m1 c j := ⟨_, rfl⟩
    have em2 : m2 = (m1.set j (rowB m1 c)).set c (rowB m1 j) := by rw [hm2, swapB_comm]; rfl
    obtain ⟨rs2, hrs2⟩ : ∃ x, x = (rs1.set j (rs1[c]'(by omega))).set c (rs1[j]'(by omega)) := ⟨_, rfl⟩
    obtain ⟨qs2, hqs2⟩ : ∃ x, x = (qs1.set j (qs1[c]'(by omega))).set c (qs1[j]'(by omega)) := ⟨_, rfl⟩
    have ip2 : inPool pool1 (List.take n) rs2 m2 := by
      rw [em2, hrs2, row_lt (by omega), row_lt (by omega)]
      exact (ip1.set j (ip1.get (by omega))).set c (ip1.get (by omega))
    have iq2 : inPool pool1 (List.drop n) qs2 m2 := by
      rw [em2, hqs2, row_lt (by omega), row_lt (by omega)]
      exact (iq1.set j (iq1.get (by omega))).set c (iq1.get (by omega))
    have H17' : Sp h2 h17 [OwnA T_sl_uint8 s 1 slv rs2, OwnA T_sl_uint8 t 1 slv qs2, PoolA pool1] := by rw [hrs2, hqs2]; exact H17
    have hl2 : m2.length = k := by rw [hm2, swap_len']; exact hl1
    have hev2 : evenB (n + w) m2 := by rw [hm2]; exact swap_even hev.1 (by omega) (by omega)
    have r2l := ip2.1
    have q2l := iq2.1
    have rl2 : ∀ i (hi : i < k), (m2[i]'(by omega)).length = n + w := fun i hi => hev2 _ (List.getElem_mem _)
    have hs1 := H17'.seq 0 rfl (fun _ => rfl)
    have ht1 := H17'.seq 1 rfl (fun _ => rfl)
    refine hs1.getS c rfl (by omega) fun _ _ _ => ?_
    have hrow2 := H17'.poolRd 2 rfl (ip2.get (show c < m2.length by omega))
    have hcc : ((m2[c]'(by omega)).take n)[c]'(by rw [List.length_take, rl2 c (by omega)]; omega) = colB (rowB m2 c) c := by
      rw [List.getElem_take, row_lt (by omega), col_lt (by rw [rl2 c (by omega)]; omega)]
    refine hrow2.get1 c rfl (by rw [List.length_take, rl2 c (by omega)]; omega) _ rfl ?_
    rw [hcc]
    refine (refInv_spec _ h17).mono ?_
    rintro v h18 ⟨rfl, rfl⟩
    refine ⟨_, rfl, join_in ?_⟩
    refine hs1.getS c rfl (by omega) fun _ _ _ => ?_
    refine ht1.getS c rfl (by omega) fun a44 hc44 _ => ?_
    dsimp only
    refine (refScale_spec _ _ _ h18 hrow2 (by rw [List.length_take, rl2 c (by omega)]; omega)).mono ?_
    rintro v h19 ⟨ra, rfl, R19⟩
    refine ⟨ra, rfl, ⟨held_up hc44 R19.pres, trivial⟩, ?_⟩
    have H19 := H17'.comp R19
    refine (refScale_spec _ _ _ h19 (H19.poolRd 2 rfl (iq2.get (show c < m2.length by omega))) (by rw [List.length_drop, rl2 c (by omega)]; omega)).mono ?_
    rintro v h20 ⟨rb, rfl, R20⟩
    refine ⟨rb, rfl, trivial, ?_⟩
    have H20 := H19.comp R20
    refine H20.set C_ok 0 rfl (fun _ => rfl) rfl c rfl (by omega) ra rfl rfl rfl fun h21 H21 => ⟨trivial, ?_⟩
    refine H21.set C_ok 1 rfl (fun _ => rfl) rfl c rfl (by omega) rb rfl rfl rfl fun h22 H22 => ⟨trivial, ?_⟩
    have H23 := take3 ((((H22.freeze 3 rfl (fun _ => rfl)).freeze 4 rfl (fun _ => rfl)).pool 2 3 (by decide) rfl rfl).pool 2 4 (by decide) rfl rfl)
    obtain ⟨m3, hm3⟩ : ∃ m3, m3 = normB c c m2 := ⟨_, rfl⟩
    obtain ⟨rs3, hrs3⟩ : ∃ x, x = rs2.set c ra := ⟨_, rfl⟩
    obtain ⟨qs3, hqs3⟩ : ∃ x, x = qs2.set c rb := ⟨_, rfl⟩
    obtain ⟨pool3, hpool3⟩ : ∃ x, x = (rb, scaleB (Gf.inv (colB (rowB m2 c) c)) ((m2[c]'(by omega)).drop n)) :: (ra, scaleB (Gf.inv (colB (rowB m2 c) c)) ((m2[c]'(by omega)).take n)) :: pool1 := ⟨_, rfl⟩
    have ip3 : inPool pool3 (List.take n) rs3 m3 := by
      rw [hm3, hrs3, normB, hpool3]
      refine (ip2.mono fun x hx => List.mem_cons_of_mem _ (List.mem_cons_of_mem _ hx)).set c ?_
      rw [scale_cut, ← row_lt (show c < m2.length by omega)]; simp
    have iq3 : inPool pool3 (List.drop n) qs3 m3 := by
      rw [hm3, hqs3, normB, hpool3]
      refine (iq2.mono fun x hx => List.mem_cons_of_mem _ (List.mem_cons_of_mem _ hx)).set c ?_
      rw [scale_drop, ← row_lt (show c < m2.length by omega)]; simp
    have H23' : Sp h2 h22 [OwnA T_sl_uint8 s 1 slv rs3, OwnA T_sl_uint8 t 1 slv qs3, PoolA pool3] := by rw [hrs3, hqs3, hpool3]; exact H23
    have hl3 : m3.length = k := by rw [hm3, norm_len]; exact hl2
    have hev3 : evenB (n + w) m3 := by rw [hm3]; exact norm_even hev2 (by omega)
    have hstep : (reduceB M (c + 1)).2 = elimB c c m3 k := by rw [hst, hm3, hm2, hl1]
    refine loop_inv (fun u : Nat × List Sl × List Sl × List (Sl × Row) => (u.1 : Int))
      (fun u h' => u.1 ≤ k ∧ Sp h2 h' [OwnA T_sl_uint8 s 1 slv u.2.1, OwnA T_sl_uint8 t 1 slv u.2.2.1, PoolA u.2.2.2] ∧ inPool u.2.2.2 (List.take n) u.2.1 (elimB c c m3 u.1) ∧ inPool u.2.2.2 (List.drop n) u.2.2.1 (elimB c c m3 u.1))
      (fun u => k - u.1) (0, rs3, qs3, pool3) rfl ⟨by simp, H23', by rw [elim_zero]; exact ip3, by rw [elim_zero]; exact iq3⟩ ?_
    rintro ⟨i, rs4, qs4, pool4⟩ h25 ⟨hi, H25, ip4, iq4⟩
    dsimp only at *
    have hel := elim_len c c m3 i
    have r4l := ip4.1
    have q4l := iq4.1
    refine br_dec (fun e2 => ?_) (fun e2 => ?_)
    · have hik : i < k := by omega
      have eri : (elimB c c m3 i)[i]'(by omega) = rowB m3 i := by rw [← row_lt (by omega), elim_row (by omega), if_neg (by omega)]
      have erc : (elimB c c m3 i)[c]'(by omega) = rowB m3 c := by rw [← row_lt (by omega), elim_row (by omega), if_neg (by omega)]
      have li : (rowB m3 i).length = n + w := even_row hev3 (by omega)
      have lc : (rowB m3 c).length = n + w := even_row hev3 (by omega)
      have hs4 := H25.seq 0 rfl (fun _ => rfl)
      have ht4 := H25.seq 1 rfl (fun _ => rfl)
      have xi := H25.poolRd 2 rfl (ip4.get (show i < (elimB c c m3 i).length by omega))
      have xc := H25.poolRd 2 rfl (ip4.get (show c < (elimB c c m3 i).length by omega))
      have yi := H25.poolRd 2 rfl (iq4.get (show i < (elimB c c m3 i).length by omega))
      have yc := H25.poolRd 2 rfl (iq4.get (show c < (elimB c c m3 i).length by omega))
      rw [eri] at xi yi
      rw [erc] at xc yc
      refine hs4.getS i rfl (by omega) fun _ _ _ => ?_
      have hci : ((rowB m3 i).take n)[c]'(by rw [List.length_take, li]; omega) = colB (rowB m3 i) c := by rw [List.getElem_take, col_lt (by omega)]
      refine xi.get1 c rfl (by rw [List.length_take, li]; omega) _ rfl ?_
      rw [hci]
      rw [Go.Vc.wrap_small ((i : Int) + 1) (by omega) (by omega)]
      have skip : elimB c c m3 (i + 1) = elimB c c m3 i → ∃ t' : Nat × List Sl × List Sl × List (Sl × Row), (i : Int) + 1 = (t'.1 : Int) ∧ (t'.1 ≤ k ∧ Sp h2 h25 [OwnA T_sl_uint8 s 1 slv t'.2.1, OwnA T_sl_uint8 t 1 slv t'.2.2.1, PoolA t'.2.2.2] ∧ inPool t'.2.2.2 (List.take n) t'.2.1 (elimB c c m3 t'.1) ∧ inPool t'.2.2.2 (List.drop n) t'.2.2.1 (elimB c c m3 t'.1)) ∧ k - t'.1 < k - i := fun hsk =>
        ⟨(i + 1, rs4, qs4, pool4), rfl, ⟨by dsimp only; omega, H25, by dsimp only; rw [hsk]; exact ip4, by dsimp only; rw [hsk]; exact iq4⟩, by dsimp only; omega⟩
      refine join_in ?_
      refine br_ne (fun e3 => ?_) (fun e3 => br_f rfl (skip ?_))
      · have hic : i ≠ c := fun hh => e3 (by rw [hh])
        refine br_ne (fun e4 => ?_) (fun e4 => skip ?_)
        · refine hs4.getS c rfl (by omega) fun _ _ _ => ?_
          refine hs4.getS i rfl (by omega) fun _ _ _ => ?_
          refine ht4.getS c rfl (by omega) fun a61 hc61 _ => ?_
          refine ht4.getS i rfl (by omega) fun a63 hc63 _ => ?_
          refine (refAxpy_spec _ _ _ _ _ h25 xc xi (by simp [li, lc]) (by rw [List.length_take, li]; omega)).mono ?_
          rintro v h27 ⟨ra, rfl, R27⟩
          refine ⟨ra, rfl, ⟨held_up hc63 R27.pres, held_up hc61 R27.pres, trivial⟩, ?_⟩
          have H27 := H25.comp R27
          refine (refAxpy_spec _ _ _ _ _ h27 (Seq.up yc R27.pres) (Seq.up yi R27.pres) (by simp [li, lc]) (by rw [List.length_drop, li]; omega)).mono ?_
          rintro v h28 ⟨rb, rfl, R28⟩
          refine ⟨rb, rfl, trivial, ?_⟩
          have H28 := H27.comp R28
          refine H28.set C_ok 0 rfl (fun _ => rfl) rfl i rfl (by omega) ra rfl rfl rfl fun h29 H29 => ⟨trivial, ?_⟩
          refine H29.set C_ok 1 rfl (fun _ => rfl) rfl i rfl (by omega) rb rfl rfl rfl fun h30 H30 => ⟨trivial, ?_⟩
          have H31 := take3 ((((H30.freeze 3 rfl (fun _ => rfl)).freeze 4 rfl (fun _ => rfl)).pool 2 3 (by decide) rfl rfl).pool 2 4 (by decide) rfl rfl)
          refine ⟨(i + 1, rs4.set i ra, qs4.set i rb, _), rfl, ⟨by dsimp only; omega, H31, ?_, ?_⟩, by dsimp only; omega⟩
          · dsimp only
            rw [elim_succ (by omega) hic]
            refine (ip4.mono fun x hx => List.mem_cons_of_mem _ (List.mem_cons_of_mem _ hx)).set i ?_
            rw [add_cut]; simp
          · dsimp only
            rw [elim_succ (by omega) hic]
            refine (iq4.mono fun x hx => List.mem_cons_of_mem _ (List.mem_cons_of_mem _ hx)).set i ?_
            rw [add_drop]; simp
        · have hz : colB (rowB m3 i) c = 0 := nat0.1 e4
          rw [elim_succ (by omega) hic, hz, add_nought (by omega)]
          apply List.ext_getElem?
          intro x
          rw [List.getElem?_set]
          split
          · rename_i hkj
            subst hkj
            rw [if_pos (by omega), List.getElem?_eq_getElem (by omega), eri]
          · rfl
      · have hic : i = c := by omega
        subst hic
        exact elim_skip
    · have hie : i = k := by omega
      subst hie
      refine ⟨(c + 1, rs4, qs4, pool4), by dsimp only; rw [Go.Vc.wrap_small _ (by omega) (by omega)]; rfl, ⟨by dsimp only; omega, H25, ?_, ?_⟩, by dsimp only; omega⟩
      · dsimp only; rw [hstep]; exact ip4
      · dsimp only; rw [hstep]; exact iq4
  have hcn : c = n := by omega
  subst hcn
  have hfw := full_way (a := A) (b := Bm) (by omega) hA hB hr
  rw [← hM, ← hm1] at hfw
  have hcalm : calmB c A Bm ↔ ∀ i (hi : i < m1.length), c ≤ i → (m1[i].drop c) = zeroB (m1[i].drop c).length := by
    unfold calmB; rw [← hM, ← hm1]
    constructor
    · intro hc i hi hn
      have hz : m1[i] = zeroB m1[i].length := hc _ (List.mem_iff_getElem?.2 ⟨i - c, by rw [List.getElem?_drop, show c + (i - c) = i by omega, List.getElem?_eq_getElem hi]⟩)
      conv => lhs; rw [hz]
      simp [zeroB]
    · intro hc x hx
      obtain ⟨i, hi, rfl⟩ := List.getElem_of_mem hx
      simp only [List.length_drop] at hi
      rw [List.getElem_drop]
      have hd := hc (c + i) (by omega) (by omega)
      have hln : (m1[c + i]'(by omega)).length = c + w := hev.1 _ (List.getElem_mem _)
      refine row_ext (n := c + w) hln (by simp [zeroB, hln]) fun j hj => ?_
      rw [col_zero]
      by_cases hjc : j < c
      · have := hfw.2.2 j hjc (c + i) (by omega)
        rw [row_getG (show c + i < m1.length by omega), if_neg (by omega)] at this
        exact this
      · have this : colB ((m1[c + i]'(by omega)).drop c) (j - c) = colB (zeroB ((m1[c + i]'(by omega)).drop c).length) (j - c) := congrArg (fun r => colB r (j - c)) hd
        rw [col_drop, col_zero, show c + (j - c) = j by omega] at this
        exact this
  refine loop_inv (fun i : Nat => (i : Int)) (fun i h' => h' = h12 ∧ c ≤ i ∧ i ≤ k ∧ ∀ j (hj : j < m1.length), c ≤ j → j < i → m1[j].drop c = zeroB (m1[j].drop c).length) (fun i => k - i) c rfl ⟨rfl, Nat.le_refl _, by omega, fun j _ _ _ => by omega⟩ ?_
  rintro i h31 ⟨rfl, hci, hik, hzero⟩
  refine br_dec (fun e => ?_) (fun e => ?_)
  · have hi' : i < k := by
      have e' : (i : Int) < (t.len : Int) := e
      omega
    refine (H12.seq 1 rfl (fun _ => rfl)).getS i rfl (by omega) fun _ _ _ => ?_
    have hrow := H12.poolRd 2 rfl (iq1.get (show i < m1.length by omega))
    have hln : (m1[i]'(by omega)).length = c + w := hev.1 _ (List.getElem_mem _)
    refine (refLead_spec _ _ h31 hrow (by simp; omega)).mono ?_
    rintro _ h32 ⟨rfl, rfl⟩
    refine ⟨_, rfl, br_dec (fun e2 => ?_) (fun e2 => ?_)⟩
    · right; right
      have hld : leadB ((m1[i]'(by omega)).drop c) < ((m1[i]'(by omega)).drop c).length := by
        by_cases hh : leadB ((m1[i]'(by omega)).drop c) < ((m1[i]'(by omega)).drop c).length
        · exact hh
        · rw [if_neg hh] at e2; exact absurd e2 (by decide)
      refine ⟨hr, fun hc2 => absurd hld (lead_zero.2 (hcalm.1 hc2 i (by omega) hci)), rfl, .zip H12.pres⟩
    · have hld : ¬ leadB ((m1[i]'(by omega)).drop c) < ((m1[i]'(by omega)).drop c).length := fun hh => by
        rw [if_pos hh] at e2; exact e2 (Int.natCast_nonneg _)
      refine ⟨i + 1, by rw [Go.Vc.wrap_small _ (by omega) (by omega)]; rfl, ⟨rfl, by omega, by omega, fun j hj h1 h2 => ?_⟩, by omega⟩
      by_cases hji : j = i
      · subst hji; exact lead_zero.1 hld
      · exact hzero j hj h1 (by omega)
  have hCalm : calmB c A Bm := hcalm.2 fun j hj h1 => hzero j hj h1 (by
    have e' : ¬ (i : Int) < (t.len : Int) := e
    omega)
  refine ⟨⟨Int.natCast_nonneg _, Int.ofNat_le.2 (show c ≤ t.cap by omega)⟩, ?_⟩
  have esol : solB c A Bm = (m1.take c).map (List.drop c) := by rw [solB, ← hM, ← hm1]
  have HC := H12.cut 1 rfl (fun _ => rfl) c (by omega)
  have HR := HC.poolRows 1 2 (by decide) (ll := solB c A Bm) rfl rfl (by rw [esol]; simp; omega) (fun i r l h1 h2 => by
    rw [esol, List.getElem?_map] at h2
    rw [List.getElem?_take] at h1 h2
    split at h1
    · rename_i hlt
      rw [if_pos hlt] at h2
      cases hmi : m1[i]? with
      | none => rw [hmi] at h2; cases h2
      | some x => rw [hmi] at h2; cases h2; exact iq1.2 i r x h1 hmi
    · cases h1)
  rw [Int.toNat_natCast]
  refine .inr (.inl ⟨hr, hCalm, ⟨t.ptr, c, t.cap⟩, rfl, ?_⟩)
  exact HR.sel [1]
end Go.Proofs.YtkcplnfomahleaaGreatDoor
namespace Go.Proofs.YtkcplnfomahleaaGreatDoor
open Go Go.Vc Go.Proofs Wl
set_option maxRecDepth 100000
theorem spareB_spec (s : Sl) (l : Row) (mk : UInt8) (h : Heap) (hl : Rd h s 1 u8v l) (hsz : l.length ≤ 2 ^ 30) : Meets Tryz.prog wellspringkeep_Spare_byte_id #[.slice s.ptr s.len s.cap, .int .u8 mk.toNat] h fun v h' =>
    ∃ r : Sl, v = .slice r.ptr r.len r.cap ∧ r.len = l.length ∧ r.cap = l.length + 2 ∧ Sp h h' [OwnA T_uint8 ⟨r.ptr, l.length + 2, l.length + 2⟩ 1 u8v (l ++ [mk, mk])] := by
  refine wellspringkeep_Spare_byte_run s mk.toNat ?_
  unfold wellspringkeep_Spare_byte_m
  have hlen := hl.len
  rw [Go.Vc.wrap_small _ (by omega) (by omega)]
  refine (Sp.refl h).make C_ok u8v eU8 (by decide) 0 rfl rfl l.length (l.length + 2) (by omega) (by omega) (by omega) (by omega) fun v h1 hvl hvc H1 => ?_
  refine H1.copy C_ok 0 rfl eU8 (fun _ => rfl) (Seq.up hl H1.pres) (by simp) one_u8 fun h2 H2 => ?_
  refine ⟨⟨by omega, by omega⟩, ?_⟩
  rw [Int.toNat_natCast]
  have H2' : Sp h h2 [OwnA T_uint8 ⟨v.ptr, l.length, v.cap⟩ 1 u8v l] := by
    have : v = ⟨v.ptr, l.length, v.cap⟩ := by obtain ⟨a, b, c⟩ := v; simp only at hvl ⊢; rw [hvl]
    rw [← this]; exact H2
  refine loop_inv (fun i : Nat => ((l.length + i : Nat) : Int)) (fun i h' => i ≤ 2 ∧ Sp h h' [OwnA T_uint8 ⟨v.ptr, l.length + i, v.cap⟩ 1 u8v (l ++ List.replicate i mk)]) (fun i => 2 - i) 0 (by rw [hlen]; rfl) ⟨by omega, by simpa using H2'⟩ ?_
  rintro i h3 ⟨hi, H3⟩
  have hll : (l ++ List.replicate i mk).length = l.length + i := by simp
  refine br_dec (fun e => ?_) (fun e => ?_)
  · refine H3.pokeGrow C_ok 0 rfl (fun _ => rfl) rfl (by rw [hll]) (by dsimp only; omega) rfl mk rfl rfl rfl fun h4 H4 => ?_
    refine ⟨i + 1, by rw [Go.Vc.wrap_small _ (by omega) (by omega)]; rfl, ⟨by omega, ?_⟩, by omega⟩
    rw [List.append_assoc, ← List.replicate_succ', hll] at H4
    exact H4
  · have hi2 : i = 2 := by omega
    subst hi2
    refine ⟨v, rfl, hvl, hvc, ?_⟩
    rw [hvc] at H3
    exact H3
theorem keptB_spec (s w : Sl) (l : Row) (mk : UInt8) (h : Heap) (hl : Rd h ⟨s.ptr, l.length + 2, l.length + 2⟩ 1 u8v (l ++ [mk, mk])) (h1 : s.len = l.length) (h2 : s.cap = l.length + 2) (hw : Rd h w 1 u8v l) (hsz : l.length ≤ 2 ^ 30) :
    Meets Tryz.prog wellspringkeep_Kept_byte_id #[.slice s.ptr s.len s.cap, .slice w.ptr w.len w.cap, .int .u8 mk.toNat] h fun v h' => v = .bool true ∧ h' = h := by
  refine wellspringkeep_Kept_byte_run s w mk.toNat ?_
  unfold wellspringkeep_Kept_byte_m
  have hs : Rd h s 1 u8v l := by
    have := hl.take l.length (by simp)
    rw [List.take_left] at this
    have e : s = ⟨s.ptr, l.length, l.length + 2⟩ := by obtain ⟨a, b, c⟩ := s; simp only at h1 h2 ⊢; rw [h1, h2]
    rw [e]; exact this
  refine ⟨⟨by omega, by omega⟩, (sameB_spec s w l l h hs hw (by omega)).mono ?_⟩
  rintro v h3 ⟨rfl, rfl⟩
  refine ⟨_, rfl, br_not (fun e => absurd e (by simp)) fun _ => ?_⟩
  rw [Int.toNat_natCast]
  refine loop_inv (fun i : Nat => ((l.length + i : Nat) : Int)) (fun i h' => i ≤ 2 ∧ h' = h3) (fun i => 2 - i) 0 (by rw [h1]; rfl) ⟨by omega, rfl⟩ ?_
  rintro i h4 ⟨hi, rfl⟩
  refine br_dec (fun e => ?_) (fun e => ⟨rfl, rfl⟩)
  have hi' : i < 2 := by omega
  rw [h2]
  refine hl.get1 (l.length + i) rfl (by simp; omega) (mk.toNat : Int) ?_ ?_
  · rw [List.getElem_append_right (by omega)]
    rcases (show i = 0 ∨ i = 1 by omega) with rfl | rfl <;> simp [u8v]
  · refine br_ne (fun e => absurd rfl e) fun _ => ?_
    exact ⟨i + 1, by rw [Go.Vc.wrap_small _ (by omega) (by omega)]; rfl, ⟨by omega, rfl⟩, by omega⟩
def pv3 (p : Pm) : List Value := [.int .i64 p.1, .int .i64 p.2.1, .int .i64 p.2.2]
abbrev ePm : ElemOk C.toCfg T_sl_api_Params T_api_Params 3 [.int .i64 0, .int .i64 0, .int .i64 0] 24 := ⟨_, _, rfl, rfl, rfl, rfl, rfl, rfl⟩
theorem refSum_spec (a b : Sl) (la lb : Row) (h : Heap) (ha : Rd h a 1 u8v la) (hb : Rd h b 1 u8v lb) (hl : la.length = lb.length) (hs : lb.length ≤ 2 ^ 30) :
    Meets Tryz.prog wellspringref01_Sum_id #[.slice a.ptr a.len a.cap, .slice b.ptr b.len b.cap] h fun v h' => ∃ r : Sl, v = .slice r.ptr r.len r.cap ∧ Sp h h' [OwnA T_uint8 r 1 u8v (addB 1 la lb)] := by
  refine wellspringref01_Sum_run a b ?_
  unfold wellspringref01_Sum_m
  refine (refAxpy_spec 1 a b la lb h ha hb hl hs).mono ?_
  rintro v h1 ⟨r, rfl, R⟩
  exact ⟨r, rfl, r, rfl, R⟩
theorem refAdd_spec (p : Pm) (m at_ : Sl) (M : Mat) (l : List Int) (n w : Nat) (h : Heap) (hm : Rd2 h m 1 u8v M) (ha : Rd h at_ 1 intv l) (hw : p.2.2 = w) (hM : evenB w M) (hl : M.length = n) (hin : ∀ x ∈ l, 0 ≤ x ∧ x < (n : Int)) (hn : n ≤ 64) (hw2 : w ≤ 64) (hll : l.length ≤ 64) :
    Meets Tryz.prog wellspringref11_Add_id #[pmv p, .slice m.ptr m.len m.cap, .slice at_.ptr at_.len at_.cap] h fun v h' => ∃ r : Sl, v = .slice r.ptr r.len r.cap ∧ Sp h h' [OwnA T_uint8 r 1 u8v (symB w M l)] := by
  have hml := hm.len; have hal := ha.len
  refine wellspringref11_Add_run p m at_ ?_
  unfold wellspringref11_Add_m
  refine (Sp.refl h).boxed fun a h1 H1 => ?_
  refine ⟨p.2.2, (H1.box 0 rfl).cell rfl, ?_⟩
  refine H1.make C_ok u8v eU8 (by decide) 0 rfl rfl w w hw hw (Nat.le_refl _) (by omega) fun o h2 _ _ H2 => ?_
  refine loop_inv (fun t : Sl × Nat => (t.1, (t.2 : Int))) (fun t h' => t.2 ≤ l.length ∧ Sp h h' [BoxA a T_api_Params [.int .i64 p.1, .int .i64 p.2.1, .int .i64 p.2.2], OwnA T_uint8 t.1 1 u8v (symB w M (l.take t.2))]) (fun t => l.length - t.2) (o, 0) rfl ⟨by simp, H2⟩ ?_
  rintro ⟨s, k⟩ h3 ⟨hk, H3⟩
  dsimp only at *
  refine br_dec (fun e => ?_) (fun e => ?_)
  · have hk' : k < l.length := by omega
    have hx := hin _ (List.getElem_mem hk')
    refine (Seq.up ha H3.pres).get1 k rfl hk' _ rfl ?_
    refine (hm.up H3.pres).get l[k].toNat (by omega) (by omega) fun r hr => ?_
    have hSl := sym_take_len hM hl hin k hk
    have hrl : (M[l[k].toNat]'(by omega)).length = w := hM _ (List.getElem_mem _)
    refine (refSum_spec r s _ _ h3 hr (H3.seq 1 rfl (fun _ => rfl)) (by omega) (by omega)).mono ?_
    rintro v h4 ⟨r2, rfl, R4⟩
    have H4 := (H3.comp R4).del 1
    refine ⟨r2, rfl, (r2, k + 1), by dsimp only; rw [Go.Vc.wrap_small _ (by omega) (by omega)]; rfl, ⟨by dsimp only; omega, ?_⟩, by dsimp only; omega⟩
    dsimp only
    rw [take_snoc _ _ hk', sym_snoc, row_lt (by omega)]
    exact H4
  · rw [List.take_of_length_le (by omega)] at H3
    exact ⟨s, rfl, H3.take 1 (fun i A hi => by cases i with | zero => exact hi | succ i => simp at hi)⟩
end Go.Proofs.YtkcplnfomahleaaGreatDoor
namespace Go.Proofs.YtkcplnfomahleaaGreatDoor
open Go Go.Vc Go.Proofs Wl
set_option maxRecDepth 100000
set_option maxHeartbeats 2000000 in
theorem refDecode_spec (p : Pm) (seed : Int) (l : Sl) (syms : List (Int × Row)) (h : Heap) (hl : RdE EltYs h l syms) (hsl : syms.length ≤ 2 ^ 18) (hdl : ∀ x ∈ syms, x.2.length ≤ 2 ^ 20) :
    Meets Tryz.prog wellspringref11_Decode_id #[pmv p, .int .u32 seed, .slice l.ptr l.len l.cap] h fun v h' => ∃ r : Sl, v = .tuple #[.slice r.ptr r.len r.cap, .int .i64 (decB p seed syms).2] ∧ Sp h h' [OwnA T_uint8 r 1 u8v (decB p seed syms).1] := by
  refine wellspringref11_Decode_run p seed l ?_
  unfold wellspringref11_Decode_m
  refine (Sp.refl h).boxed fun a1 h1 H1 => ?_
  have bad : ∀ {h' : Heap} {As : List HP} (e : Int), Sp h h' As → decB p seed syms = ([], e) → ∃ r : Sl, (.tuple #[.slice none 0 0, .int .i64 e] : Value) = .tuple #[.slice r.ptr r.len r.cap, .int .i64 (decB p seed syms).2] ∧ Sp h h' [OwnA T_uint8 r 1 u8v (decB p seed syms).1] := fun {h' As} e H' he => by
    rw [he]
    exact ⟨⟨none, 0, 0⟩, rfl, (Sp.zip H'.pres).nil T_uint8 1 u8v⟩
  refine ⟨p, (H1.box 0 rfl).cells0 _ rfl, (refMay_spec p h1).mono ?_⟩
  rintro _ h2 ⟨rfl, R2⟩
  have H2 := H1.up R2.pres
  refine ⟨_, rfl, br_not (fun e => ?_) (fun hmay => ?_)⟩
  · exact bad 1 H2 (by unfold decB; rw [e]; rfl)
  have hmp := (mayP_iff p).1 hmay
  have hcp := colsP_eq hmay
  obtain ⟨w, hw⟩ : ∃ w, w = p.2.2.toNat := ⟨_, rfl⟩
  let pc : List Value := [.int .i64 p.1, .int .i64 p.2.1, .int .i64 p.2.2]
  have H2' : Sp h h2 [MA ⟨none, 0, 0⟩ [], BoxA a1 T_api_Params [.int .i64 p.1, .int .i64 p.2.1, .int .i64 p.2.2]] := (H2.rows0 T_sl_uint8 1 u8v).front1
  refine loop_inv (fun t : Nat × Sl => (t.2, (t.1 : Int))) (fun t h' => t.1 ≤ p.2.1.toNat ∧ Sp h h' [MA t.2 (List.replicate t.1 (zeroB w)), BoxA a1 T_api_Params [.int .i64 p.1, .int .i64 p.2.1, .int .i64 p.2.2]]) (fun t => p.2.1.toNat - t.1) (0, ⟨none, 0, 0⟩) rfl ⟨by omega, H2'⟩ ?_
  rintro ⟨i, b⟩ h3 ⟨hi, H3⟩
  dsimp only at *
  refine ⟨p.2.1, (H3.box 1 rfl).cell rfl, br_dec (fun e => ?_) (fun e => ?_)⟩
  · refine ⟨p.2.2, (H3.box 1 rfl).cell rfl, ?_⟩
    refine H3.make C_ok u8v eU8 (by decide) 0 rfl rfl w w (by omega) (by omega) (Nat.le_refl _) (by omega) fun z h4 _ _ H4 => ?_
    refine (H4.freeze 2 rfl fun _ => rfl).rowPush C_ok 0 2 (by decide) rfl rfl eSlU8 (by simp; omega) fun b' h5 H5 => ?_
    refine ⟨(i + 1, b'), by dsimp only; rw [Go.Vc.wrap_small _ (by omega) (by omega)]; rfl, ⟨by dsimp only; omega, ?_⟩, by dsimp only; omega⟩
    dsimp only
    rw [List.replicate_succ']
    exact H5.sel [0, 1]
  have hie : i = p.2.1.toNat := by omega
  subst hie
  obtain ⟨ys, q1, q2, q3⟩ := EltL.heads hl
  have hll := EltL.len hl
  have H3' : Sp h h3 [MA b (List.replicate p.2.1.toNat (zeroB w) ++ (syms.take 0).map Prod.snd), OwnA T_int ⟨none, 0, 0⟩ 1 intv ((syms.take 0).map Prod.fst), BoxA a1 T_api_Params [.int .i64 p.1, .int .i64 p.2.1, .int .i64 p.2.2]] := by
    have := (H3.nil T_int 1 intv).sel [0, 2, 1]
    simpa using this
  refine loop_inv (fun t : Nat × Sl × Sl => (t.2.1, t.2.2, (t.1 : Int))) (fun t h' => t.1 ≤ syms.length ∧ (syms.take t.1).all (symB? p) = true ∧ Sp h h' [MA t.2.2 (List.replicate p.2.1.toNat (zeroB w) ++ (syms.take t.1).map Prod.snd), OwnA T_int t.2.1 1 intv ((syms.take t.1).map Prod.fst), BoxA a1 T_api_Params [.int .i64 p.1, .int .i64 p.2.1, .int .i64 p.2.2]]) (fun t => syms.length - t.1) (0, ⟨none, 0, 0⟩, b) rfl ⟨by omega, by simp, H3'⟩ ?_
  rintro ⟨i, o, b2⟩ h4 ⟨hi2, hall, H4⟩
  dsimp only at *
  refine br_dec (fun e2 => ?_) (fun e2 => ?_)
  · have hi' : i < syms.length := by omega
    obtain ⟨y1, y2⟩ := q3 i (by omega) hi'
    have hyl := y2.len
    have hx20 := hdl _ (List.getElem_mem hi')
    refine (Seq.up q1 H4.pres).getk (g := yv) i rfl (by omega) (ys[i]'(by omega)) rfl ?_
    refine H4.alloc C_ok rfl fun a13 h5 H5 => ?_
    refine H5.storeAll C_ok 3 rfl rfl (yv (ys[i]'(by omega))) rfl rfl rfl rfl fun h6 H6 => ?_
    have hb6 := H6.box 3 rfl
    have bad1 : symB? p syms[i] = false → decB p seed syms = ([], 1) := fun hf => by
      have : syms.all (symB? p) = false := List.all_eq_false.2 ⟨_, List.getElem_mem hi', by simp [hf]⟩
      unfold decB; rw [hmay, this]; rfl
    refine join_in ⟨(ys[i]'(by omega)).1, hb6.cell0 rfl, (refMayID_spec _ h6).mono ?_⟩
    rintro _ h7 ⟨rfl, rfl⟩
    refine ⟨_, rfl, br_not (fun e3 => ?_) (fun e3 => ?_)⟩
    · exact bad 1 H6 (bad1 (by unfold symB?; rw [← y1, e3]; rfl))
    refine ⟨(ys[i]'(by omega)).2, hb6.cell rfl, p.2.2, (H6.box 2 rfl).cell rfl, br_ne (fun e4 => ?_) (fun e4 => ?_)⟩
    · refine bad 1 H6 (bad1 ?_)
      unfold symB?
      rw [decide_eq_false (by rw [hyl] at e4; exact e4)]; simp
    have hsy : symB? p syms[i] = true := by
      unfold symB?
      rw [← y1, e3, decide_eq_true (by rw [hyl] at e4; exact e4)]; rfl
    refine ⟨(ys[i]'(by omega)).1, hb6.cell0 rfl, (ys[i]'(by omega)).2, hb6.cell rfl, ?_⟩
    refine H6.litHeld C_ok intv eInt rfl [(ys[i]'(by omega)).1] rfl (show 1 * 1 ≤ 2 ^ 20 by decide) rfl ⟨hb6.cell rfl, trivial⟩ ?_
    refine H6.push C_ok 1 rfl eInt rfl (by decide) (fun _ => rfl) one_int (ys[i]'(by omega)).1 rfl (by decide) (by simp; omega) fun o' h8 H8 => ⟨⟨(H8.box 3 rfl).cell rfl, trivial⟩, ?_⟩
    have H9 := H8.nil T_uint8 1 u8v
    refine H9.append C_ok 4 rfl eU8 e_u8sl rfl (by decide) (fun _ => rfl) (Seq.up y2 H9.pres) one_u8 (by simp; omega) fun z h10 H10 => ⟨trivial, ?_⟩
    have H11 := H10.freeze 4 rfl fun _ => rfl
    refine H11.litHeld (L := []) C_ok slv eSlU8 rfl [z] rfl (show 1 * 1 ≤ 2 ^ 20 by decide) rfl trivial ?_
    refine H11.rowPush C_ok 0 4 (by decide) rfl rfl eSlU8 (by simp; omega) fun b' h12 H12 => ⟨trivial, ?_⟩
    refine ⟨(i + 1, o', b'), by dsimp only; rw [Go.Vc.wrap_small _ (by omega) (by omega)]; rfl, ⟨by dsimp only; omega, ?_, ?_⟩, by dsimp only; omega⟩
    · dsimp only; rw [take_snoc _ _ hi', List.all_append, hall]; simp [hsy]
    · dsimp only
      rw [take_snoc _ _ hi', List.map_append, List.map_append, ← List.append_assoc]
      rw [y1, List.nil_append] at H12
      exact H12.sel [0, 1, 2]
  have hie : i = syms.length := by omega
  subst hie
  rw [List.take_length] at H4 hall
  have hok : ∀ x ∈ syms, SymOk p x := fun x hx => (sym_ok hmay).1 (List.all_eq_true.1 hall x hx)
  have hmid : List.replicate p.2.1.toNat (zeroB w) ++ syms.map Prod.snd = midR p syms := by unfold midR; rw [hw]
  rw [hmid] at H4
  refine ⟨p, (H4.box 2 rfl).cells0 _ rfl, (refMatrix_spec p seed o _ h4 (H4.seq 1 rfl fun _ => rfl) (by simp; omega)).mono ?_⟩
  rintro _ h5 ⟨m, rfl, R5⟩
  have H5 := H4.comp R5
  refine ⟨m, rfl, ?_⟩
  have hBe : evenB w (midR p syms) := fun x hx => by
    rcases List.mem_append.1 hx with hx | hx
    · rw [(List.mem_replicate.1 hx).2, hw]; simp [zeroB]
    · obtain ⟨y, hy, rfl⟩ := List.mem_map.1 hx; rw [hw]; exact (hok y hy).len
  have hAl : (matI p seed (syms.map Prod.fst)).length = (midR p syms).length := by
    rw [← eqs_A (n := (colsP p).toNat) (seed := seed) hmay rfl hok, ← eqs_B (n := (colsP p).toNat) (seed := seed) (p := p) (l := syms) rfl]; exact all_len
  have hBl : (midR p syms).length = p.2.1.toNat + syms.length := by unfold midR; simp
  refine (refSolveG_spec m b2 _ (midR p syms) (midR p syms).length (colsP p).toNat w h5 (H5.rd2 3 rfl) (H5.rd2 0 rfl) hAl rfl (by omega) (by omega) (matI_even p seed _) hBe (by omega) (by omega)).mono ?_
  have hfull : fullI p seed (syms.map Prod.fst) = decide (rankB (matI p seed (syms.map Prod.fst)) = (colsP p).toNat) := by
    unfold fullI rankI; rw [hmay, Bool.true_and, Bool.eq_iff_iff]; simp; omega
  rintro _ h6 (⟨hr, rfl, R6⟩ | ⟨hr, hc, x, rfl, R6⟩ | ⟨hr, hc, rfl, R6⟩)
  · refine ⟨(⟨none, 0, 0⟩, 9), rfl, br_ne (fun _ => bad 9 (H5.up R6.pres) ?_) (fun e => absurd e (by decide))⟩
    unfold decB; rw [hmay, hall, hfull, decide_eq_false hr]; rfl
  rotate_left
  · refine ⟨(⟨none, 0, 0⟩, 10), rfl, br_ne (fun _ => bad 10 (H5.up R6.pres) ?_) (fun e => absurd e (by decide))⟩
    unfold decB; rw [hmay, hall, hfull, decide_eq_true hr, if_neg hc]; rfl
  refine ⟨(x, 0), rfl, br_ne (fun e => absurd rfl e) (fun _ => ?_)⟩
  obtain ⟨X, hX⟩ : ∃ X, X = solB (colsP p).toNat (matI p seed (syms.map Prod.fst)) (midR p syms) := ⟨_, rfl⟩
  have hdec : decB p seed syms = (outB p seed X p.1.toNat, 0) := by unfold decB; rw [hmay, hall, hfull, decide_eq_true hr, if_pos hc, hX]; rfl
  obtain ⟨hXl, hXe⟩ := sol_len hAl (matI_even p seed _) hBe hr
  rw [← hX] at R6 hXl hXe
  have H6 : Sp h h6 [MA x X, BoxA a1 T_api_Params [.int .i64 p.1, .int .i64 p.2.1, .int .i64 p.2.2]] := (H5.comp R6).sel [4, 2]
  rw [hdec]
  have hsym : ∀ j : Nat, (symB w X (colsI (colsP p).toNat seed (j : Int))).length = w := fun j => sym_len hXe hXl fun x hx => colsI_mem (by omega) (by omega) hx
  have houtl : ∀ i, (outB p seed X i).length = i * w := fun i => by
    induction i with
    | zero => simp [outB]
    | succ i ih => rw [outB_succ, List.length_append, ih, ← hw, hsym, Nat.succ_mul]
  have H7 : Sp h h6 [OwnA T_uint8 ⟨none, 0, 0⟩ 1 u8v (outB p seed X 0), MA x X, BoxA a1 T_api_Params [.int .i64 p.1, .int .i64 p.2.1, .int .i64 p.2.2]] := by
    simpa [outB] using (H6.nil T_uint8 1 u8v).front1
  refine loop_inv (fun t : Nat × Sl => (t.2, (t.1 : Int))) (fun t h' => t.1 ≤ p.1.toNat ∧ Sp h h' [OwnA T_uint8 t.2 1 u8v (outB p seed X t.1), MA x X, BoxA a1 T_api_Params [.int .i64 p.1, .int .i64 p.2.1, .int .i64 p.2.2]]) (fun t => p.1.toNat - t.1) (0, ⟨none, 0, 0⟩) rfl ⟨by omega, H7⟩ ?_
  rintro ⟨i, u⟩ h8 ⟨hi3, H8⟩
  dsimp only at *
  refine ⟨p.1, (H8.box 2 rfl).cell0 rfl, br_dec (fun e => ?_) (fun e => ?_)⟩
  · have hi' : i < p.1.toNat := by omega
    refine ⟨p, (H8.box 2 rfl).cells0 _ rfl, p, (H8.box 2 rfl).cells0 _ rfl, (refAt_spec p seed (i : Int) h8).mono ?_⟩
    rintro _ h9 ⟨c, rfl, R9⟩
    have hmi : (mayP p && mayID (i : Int)) = true := by rw [hmay]; unfold mayID; simp; omega
    rw [hmi, if_pos rfl] at R9
    have H9 := H8.comp R9
    have hb9 := H9.box 2 rfl
    refine ⟨c, rfl, ⟨hb9.cell0 rfl, hb9.cell rfl, hb9.cell rfl, trivial⟩, ?_⟩
    have hcl := colsI_len (n := (colsP p).toNat) (by omega) (by omega) seed (i : Int)
    refine (refAdd_spec p x c X _ (colsP p).toNat w h9 (H9.rd2 1 rfl) (H9.seq 3 rfl fun _ => rfl) (by omega) hXe hXl (fun y hy => colsI_mem (by omega) (by omega) hy) (by omega) (by omega) (by omega)).mono ?_
    rintro _ h10 ⟨z, rfl, R10⟩
    have H10 := H9.comp R10
    refine ⟨z, rfl, trivial, ?_⟩
    refine H10.append C_ok 0 rfl eU8 e_u8sl rfl (by decide) (fun _ => rfl) (H10.seq 4 rfl fun _ => rfl) one_u8 (by rw [houtl, hsym]; have : i * w ≤ 16 * 24 := Nat.mul_le_mul (by omega) (by omega); omega) fun u' h11 H11 => ⟨trivial, ?_⟩
    refine ⟨(i + 1, u'), by dsimp only; rw [Go.Vc.wrap_small _ (by omega) (by omega)]; rfl, ⟨by dsimp only; omega, ?_⟩, by dsimp only; omega⟩
    dsimp only
    rw [outB_succ, ← hw]
    exact H11.sel [0, 1, 2]
  · have hie : i = p.1.toNat := by omega
    subst hie
    exact ⟨u, rfl, H8.sel [0]⟩
end Go.Proofs.YtkcplnfomahleaaGreatDoor
namespace Go.Proofs.YtkcplnfomahleaaGreatDoor
open Go Go.Vc Go.Proofs Wl
set_option maxRecDepth 100000
theorem dec_len (p : Pm) (seed : Int) (syms : List (Int × Row)) : (decB p seed syms).1.length ≤ 2 ^ 40 := by
  unfold decB
  split
  · rename_i h1
    rw [Bool.and_eq_true] at h1
    obtain ⟨hmay, hall⟩ := h1
    split
    · rename_i hfull
      split
      · have hok : ∀ x ∈ syms, SymOk p x := fun x hx => (sym_ok hmay).1 (List.all_eq_true.1 hall x hx)
        have hmp := (mayP_iff p).1 hmay
        have hr : rankB (matI p seed (syms.map Prod.fst)) = (colsP p).toNat := by
          have := hfull
          have := colsP_eq hmay
          unfold fullI rankI at hfull
          rw [hmay] at hfull
          simp at hfull; omega
        have hBe : evenB p.2.2.toNat (midR p syms) := midR_even hok
        obtain ⟨hXl, hXe⟩ := sol_len (mat_mid_len (seed := seed) hmay hok) (matI_even p seed _) hBe hr
        have hl : ∀ i, (outB p seed (solB (colsP p).toNat (matI p seed (syms.map Prod.fst)) (midR p syms)) i).length = i * p.2.2.toNat := fun i => by
          have := colsP_eq hmay
          induction i with
          | zero => simp [outB]
          | succ i ih => rw [outB_succ, List.length_append, ih, sym_len hXe hXl fun x hx => colsI_mem (by omega) (by omega) hx, Nat.succ_mul]
        dsimp only
        rw [hl]
        have : p.1.toNat * p.2.2.toNat ≤ 16 * 24 := Nat.mul_le_mul (by omega) (by omega)
        omega
      · simp
    · simp
  · simp
theorem EltL.zip {α β : Type} {E : Elt α β} {k : Nat} {f : α → List Value} {h : Heap} {q : Blocks} {s : Sl} (T : List (α × β)) (hs : Go.Vc.Seq h q s k f (T.map Prod.fst)) (hE : ∀ t ∈ T, E.p h q t.1 t.2) : (EltL E k f).p h q s (T.map Prod.snd) :=
  ⟨T.map Prod.fst, hs, by simp, fun i r l h1 h2 => by
    rw [List.getElem?_map] at h1 h2
    cases h3 : T[i]? with
    | none => rw [h3] at h1; cases h1
    | some t =>
      rw [h3] at h1 h2; simp at h1 h2; subst h1; subst h2
      exact hE t (List.mem_of_getElem? h3)⟩
theorem filter_one {α : Type} (p : α → Bool) (l : List α) (i : Nat) (hi : i < l.length) : (l.take (i + 1)).filter p = (l.take i).filter p ++ (if p l[i] then [l[i]] else []) := by
  rw [take_snoc _ _ hi, List.filter_append]
  congr 1
  simp only [List.filter_cons, List.filter_nil]
end Go.Proofs.YtkcplnfomahleaaGreatDoor
