/- Part of the proof that wellspringlaw11's EncodeTells answers true whatever the input reads, and leaves it as it was; no condition. -/
import Derived.Test.YtgcbahhnnphejaaGreatKB
import Derived.Test.YtgcbahhnnphejaaGreatPlA
set_option linter.unusedVariables false
set_option linter.unusedSimpArgs false
namespace Go.Proofs.YtgcbahhnnphejaaGreat
open Go Go.Vc Go.Proofs Wl
set_option maxRecDepth 100000
/-- Rows that are only read, each under its header. -/
def PoolA (pool : List (Sl × Row)) : HP := ⟨fun h q => ∀ x ∈ pool, Seq h q x.1 1 u8v x.2, fun a hp x hx => (a x hx).pres hp, fun a hq x hx => (a x hx).mono hq⟩
theorem _root_.Go.Vc.SpB.pool0 {B : Blocks} {h0 h : Heap} {As : List HP} (H : SpB B h0 h As) : SpB B h0 h (As ++ [PoolA []]) :=
  H.comp (.one (Pres.refl _ _) fun x hx => by cases hx)
theorem _root_.Go.Vc.SpB.pool {B : Blocks} {h0 h : Heap} {As : List HP} (H : SpB B h0 h As) (i j : Nat) (hij : i ≠ j) {pool : List (Sl × Row)} {r : Sl} {l : Row} (hi : As[i]? = some (PoolA pool)) (hj : As[j]? = some (SeqA r 1 u8v l)) : SpB B h0 h ((As.set i (PoolA ((r, l) :: pool))).set j emp) :=
  H.merge i j hij hi hj fun q1 q2 _ hA hB x hx => by
    rcases List.mem_cons.1 hx with rfl | hx
    · exact Seq.mono hB fun _ h => .inr h
    · exact (hA x hx).mono fun _ h => .inl h
theorem _root_.Go.Vc.SpB.poolRd {B : Blocks} {h0 h : Heap} {As : List HP} (H : SpB B h0 h As) (i : Nat) {pool : List (Sl × Row)} (hi : As[i]? = some (PoolA pool)) {r : Sl} {l : Row} (hm : (r, l) ∈ pool) : Rd h r 1 u8v l := (H.at i hi) _ hm
theorem _root_.Go.Vc.SpB.poolRows {B : Blocks} {h0 h : Heap} {As : List HP} (H : SpB B h0 h As) (i j : Nat) (hij : i ≠ j) {pool : List (Sl × Row)} {s : Sl} {rs : List Sl} {ll : Mat} (hi : As[i]? = some (OwnA T_sl_uint8 s 1 slv rs)) (hj : As[j]? = some (PoolA pool))
    (hl : rs.length = ll.length) (hm : ∀ (k : Nat) r l, rs[k]? = some r → ll[k]? = some l → (r, l) ∈ pool) : SpB B h0 h ((As.set i (RowsA T_sl_uint8 s 1 u8v ll)).set j emp) :=
  H.merge i j hij hi hj fun q1 q2 hd hA hB => ⟨rs, q2, hA.1, fun b hb => ⟨.inl (hA.2 b hb), hd b (hA.2 b hb)⟩, fun _ h => .inr h, hl, fun k r l h1 h2 => hB _ (hm k r l h1 h2)⟩
def inPool (pool : List (Sl × Row)) (g : Row → Row) (rs : List Sl) (m : Mat) : Prop := rs.length = m.length ∧ ∀ (i : Nat) r l, rs[i]? = some r → m[i]? = some l → (r, g l) ∈ pool
theorem inPool.get {pool : List (Sl × Row)} {g : Row → Row} {rs : List Sl} {m : Mat} (h : inPool pool g rs m) {i : Nat} (hi : i < m.length) : (rs[i]'(by rw [h.1]; exact hi), g m[i]) ∈ pool :=
  h.2 i _ _ (List.getElem?_eq_getElem _) (List.getElem?_eq_getElem _)
theorem inPool.mono {pool pool' : List (Sl × Row)} {g : Row → Row} {rs : List Sl} {m : Mat} (h : inPool pool g rs m) (hp : ∀ x ∈ pool, x ∈ pool') : inPool pool' g rs m := ⟨h.1, fun i r l h1 h2 => hp _ (h.2 i r l h1 h2)⟩
theorem inPool.set {pool : List (Sl × Row)} {g : Row → Row} {rs : List Sl} {m : Mat} (h : inPool pool g rs m) (i : Nat) {r : Sl} {l : Row} (hr : (r, g l) ∈ pool) : inPool pool g (rs.set i r) (m.set i l) := by
  refine ⟨by simp [h.1], fun k r' l' h1 h2 => ?_⟩
  rw [List.getElem?_set] at h1 h2
  by_cases hik : i = k
  · subst hik
    rw [if_pos rfl] at h1 h2
    split at h1
    · rename_i hlt
      rw [if_pos (by rw [← h.1]; exact hlt)] at h2
      cases h1; cases h2; exact hr
    · cases h1
  · rw [if_neg hik] at h1 h2
    exact h.2 k r' l' h1 h2
theorem inPool.snoc {pool : List (Sl × Row)} {g : Row → Row} {rs : List Sl} {m : Mat} (h : inPool pool g rs m) {r : Sl} {l : Row} (hr : (r, g l) ∈ pool) : inPool pool g (rs ++ [r]) (m ++ [l]) := by
  refine ⟨by simp [h.1], fun k r' l' h1 h2 => ?_⟩
  by_cases hk : k < rs.length
  · rw [List.getElem?_append_left hk] at h1
    rw [List.getElem?_append_left (by rw [← h.1]; exact hk)] at h2
    exact h.2 k r' l' h1 h2
  · have : k = rs.length := by
      have := (List.getElem?_eq_some_iff.1 h1).1
      simp at this; omega
    subst this
    simp at h1
    rw [h.1] at h2
    simp at h2
    subst h1; subst h2; exact hr
theorem inPool.nil (pool : List (Sl × Row)) (g : Row → Row) : inPool pool g [] [] := ⟨rfl, fun i r l h => by simp at h⟩
theorem take3 {B : Blocks} {h0 h : Heap} {A0 A1 A2 : HP} {As : List HP} (H : SpB B h0 h (A0 :: A1 :: A2 :: As)) : SpB B h0 h [A0, A1, A2] :=
  H.take 0 fun i A hi => by
    rw [Nat.zero_add]
    match i, hi with
    | 0, hi => exact hi
    | 1, hi => exact hi
    | 2, hi => exact hi
    | k + 3, hi => simp at hi
set_option maxHeartbeats 8000000 in
theorem refSolve_spec (a b : Sl) (A Bm : Mat) (n w : Nat) (h : Heap) (ha : Rd2 h a 1 u8v A) (hb : Rd2 h b 1 u8v Bm) (hl : A.length = n) (hlb : Bm.length = n) (hA : evenB n A) (hB : evenB w Bm) (hn1 : 1 ≤ n) (hn : n + w ≤ 64) (hr : rankB A = n) :
    Meets Tryz.prog wellspringref01_Solve_id #[.slice a.ptr a.len a.cap, .slice b.ptr b.len b.cap] h fun v h' => ∃ r : Sl, v = .tuple #[.slice r.ptr r.len r.cap, .int .i64 0] ∧ Sp h h' [RowsA T_sl_uint8 r 1 u8v (solB n A Bm)] := by
  have hlen : Bm.length = A.length := by omega
  have hla := ha.len; have hlb' := hb.len
  refine wellspringref01_Solve_run a b ?_
  unfold wellspringref01_Solve_m
  refine join_in ?_
  refine (refMayMat_spec a A n h ha hA (by omega) (by omega)).mono ?_
  rintro v h1 ⟨rfl, rfl⟩
  refine ⟨_, rfl, br_not (fun e => by cases e) fun _ => ?_⟩
  refine (refMayMat_spec b Bm w h1 hb hB (by omega) (by omega)).mono ?_
  rintro v h2 ⟨rfl, rfl⟩
  refine ⟨_, rfl, br_not (fun e => by cases e) fun _ => ?_⟩
  refine br_ne (fun e => absurd (by rw [hla, hlb', hlen]) e) fun _ => ?_
  refine br_eq (fun e => by omega) fun _ => ?_
  refine ha.get 0 rfl (by omega) fun r0 hr0 => ?_
  have hr0l := hr0.len
  rw [hA _ (List.getElem_mem _)] at hr0l
  rw [hr0l]
  refine (refRank_spec a A n h2 ha hA (by omega) (by omega)).mono ?_
  rintro v h4 ⟨rfl, R4⟩
  rw [hr]
  refine ⟨_, rfl, br_dec (fun e => absurd (show (n : Int) < (n : Int) from e) (by omega)) fun _ => ?_⟩
  obtain ⟨M, hM⟩ : ∃ M, M = augB A Bm := ⟨_, rfl⟩
  have hMl : M.length = n := by rw [hM, aug_len (by omega)]; exact hl
  have hMe : evenB (n + w) M := by rw [hM]; exact aug_even (by omega) hA hB
  have hMk : ∀ k (hk : k < n), (M[k]'(by omega)).take n = A[k]'(by omega) ∧ (M[k]'(by omega)).drop n = Bm[k]'(by omega) := fun k hk => by
    have h1 : (A[k]'(by omega)).length = n := hA _ (List.getElem_mem _)
    have e : M[k]'(by omega) = A[k]'(by omega) ++ Bm[k]'(by omega) := by
      subst hM; simp [augB]
    rw [e, List.take_left' h1, List.drop_left' h1]; exact ⟨rfl, rfl⟩
  have hfull : (reduceB M n).1 = n := by rw [hM, aug_rank (by omega) hA]; exact hr
  obtain ⟨rsA, hqA⟩ := ha
  obtain ⟨rsB, hqB⟩ := hb
  have H4 := (((Sp.refl h2).up R4.pres).nil T_sl_uint8 1 slv).nil T_sl_uint8 1 slv |>.pool0
  refine loop_inv (fun t : Sl × Sl × Nat × List Sl × List Sl × List (Sl × Row) => (t.1, t.2.1, (t.2.2.1 : Int)))
    (fun t h' => t.2.2.1 ≤ n ∧ Sp h2 h' [OwnA T_sl_uint8 t.1 1 slv t.2.2.2.1, OwnA T_sl_uint8 t.2.1 1 slv t.2.2.2.2.1, PoolA t.2.2.2.2.2] ∧ inPool t.2.2.2.2.2 (List.take n) t.2.2.2.1 (M.take t.2.2.1) ∧ inPool t.2.2.2.2.2 (List.drop n) t.2.2.2.2.1 (M.take t.2.2.1))
    (fun t => n - t.2.2.1) (⟨none, 0, 0⟩, ⟨none, 0, 0⟩, 0, [], [], []) rfl ⟨by simp, H4, inPool.nil _ _, inPool.nil _ _⟩ ?_
  rintro ⟨s, t, k, rs, qs, pool⟩ h5 ⟨hk, H5, ip, iq⟩
  dsimp only at *
  have hrsl : rs.length = k := by rw [ip.1, List.length_take]; omega
  have hqsl : qs.length = k := by rw [iq.1, List.length_take]; omega
  refine br_dec (fun e => ?_) (fun e => ?_)
  · have hk' : k < n := by omega
    obtain ⟨mt, md⟩ := hMk k hk'
    have lA : (A[k]'(by omega)).length = n := hA _ (List.getElem_mem _)
    have lB : (Bm[k]'(by omega)).length = w := hB _ (List.getElem_mem _)
    obtain ⟨a8, hp8, x9, hc9, hs9⟩ := hqA.getA (K := fun _ r => Rd h2 r 1 u8v (A[k]'(by omega))) (i := (k : Int)) k rfl (by omega) fun _ _ _ hs _ => hs
    obtain ⟨a10, hp10, x11, hc11, hs11⟩ := hqB.getA (K := fun _ r => Rd h2 r 1 u8v (Bm[k]'(by omega))) (i := (k : Int)) k rfl (by omega) fun _ _ _ hs _ => hs
    refine ⟨a8, hp8, x9, held_up hc9 H5.pres, a10, hp10, x11, held_up hc11 H5.pres, ?_⟩
    have H6 := H5.nil T_uint8 1 u8v
    refine H6.append C_ok 3 rfl eU8 ⟨_, _, rfl, rfl⟩ rfl (by decide) (fun _ => rfl) (Seq.up hs9 H6.pres) one_u8 (by simp; omega) fun v12 h7 H7 => ⟨⟨held_up hc11 H7.pres, trivial⟩, ?_⟩
    refine H7.lit C_ok slv eSlU8 rfl [v12] rfl (show 1 * 1 ≤ 2 ^ 20 by decide) rfl fun v13 h8 H8 => ⟨⟨held_up hc11 H8.pres, trivial⟩, ?_⟩
    refine H8.append C_ok 0 rfl eSlU8 ⟨_, _, rfl, rfl⟩ rfl (by decide) (fun _ => rfl) (H8.seq 4 rfl (fun _ => rfl)) one_sl (by simp; omega) fun s' h9 H9 => ⟨⟨held_up hc11 H9.pres, trivial⟩, ?_⟩
    have H10 := H9.nil T_uint8 1 u8v
    refine H10.append C_ok 5 rfl eU8 ⟨_, _, rfl, rfl⟩ rfl (by decide) (fun _ => rfl) (Seq.up hs11 H10.pres) one_u8 (by simp; omega) fun v15 h11 H11 => ⟨trivial, ?_⟩
    refine H11.lit C_ok slv eSlU8 rfl [v15] rfl (show 1 * 1 ≤ 2 ^ 20 by decide) rfl fun v16 h12 H12 => ⟨trivial, ?_⟩
    refine H12.append C_ok 1 rfl eSlU8 ⟨_, _, rfl, rfl⟩ rfl (by decide) (fun _ => rfl) (H12.seq 6 rfl (fun _ => rfl)) one_sl (by simp; omega) fun t' h13 H13 => ⟨trivial, ?_⟩
    have H14 := (((H13.freeze 3 rfl (fun _ => rfl)).freeze 5 rfl (fun _ => rfl)).pool 2 3 (by decide) rfl rfl).pool 2 5 (by decide) rfl rfl
    refine ⟨(s', t', k + 1, rs ++ [v12], qs ++ [v15], (v15, Bm[k]'(by omega)) :: (v12, A[k]'(by omega)) :: pool), by dsimp only; rw [Go.Vc.wrap_small _ (by omega) (by omega)]; rfl, ⟨by dsimp only; omega, take3 H14, ?_, ?_⟩, by dsimp only; omega⟩
    · dsimp only
      rw [take_snoc _ _ (show k < M.length by omega)]
      exact (ip.mono fun x hx => List.mem_cons_of_mem _ (List.mem_cons_of_mem _ hx)).snoc (by rw [mt]; simp)
    · dsimp only
      rw [take_snoc _ _ (show k < M.length by omega)]
      exact (iq.mono fun x hx => List.mem_cons_of_mem _ (List.mem_cons_of_mem _ hx)).snoc (by rw [md]; simp)
  have hkn : k = n := by omega
  subst hkn
  rw [List.take_of_length_le (by omega)] at ip iq
  have hsl := (H5.own 0 rfl).len
  have htl := (H5.own 1 rfl).len
  have htc := (H5.own 1 rfl).cap
  refine loop_inv (fun t : Nat × List Sl × List Sl × List (Sl × Row) => (t.1 : Int))
    (fun u h' => u.1 ≤ k ∧ Sp h2 h' [OwnA T_sl_uint8 s 1 slv u.2.1, OwnA T_sl_uint8 t 1 slv u.2.2.1, PoolA u.2.2.2] ∧ inPool u.2.2.2 (List.take k) u.2.1 (reduceB M u.1).2 ∧ inPool u.2.2.2 (List.drop k) u.2.2.1 (reduceB M u.1).2)
    (fun u => k - u.1) (0, rs, qs, pool) rfl ⟨by simp, H5, ip, iq⟩ ?_
  rintro ⟨c, rs1, qs1, pool1⟩ h12 ⟨hc, H12, ip1, iq1⟩
  dsimp only at *
  have hev := reduce_even hMe c
  obtain ⟨m1, hm1⟩ : ∃ m1, m1 = (reduceB M c).2 := ⟨_, rfl⟩
  rw [← hm1] at ip1 iq1 hev
  have hl1 : m1.length = k := by rw [hev.2]; exact hMl
  have r1l := ip1.1
  have q1l := iq1.1
  refine br_dec (fun e => ?_) (fun e => ?_)
  · have hck : c < k := by omega
    obtain ⟨ix, hbe, hst⟩ := full_step hfull hck
    rw [← hm1] at hbe hst
    have hbs := begins_some hbe
    have rl1 : ∀ j (hj : j < k), (m1[j]'(by omega)).length = k + w := fun j hj => hev.1 _ (List.getElem_mem _)
    refine loop_inv (fun j : Nat => (j : Int)) (fun j h' => h' = h12 ∧ c ≤ j ∧ j ≤ ix) (fun j => ix - j) c rfl ⟨rfl, Nat.le_refl _, hbs.1⟩ ?_
    rintro j h13 ⟨rfl, hj1, hj2⟩
    have hjk : j < k := by omega
    have hs0 := H12.seq 0 rfl (fun _ => rfl)
    refine hs0.getS j rfl (by omega) fun _ _ _ => ?_
    have hrow := H12.poolRd 2 rfl (ip1.get (show j < m1.length by omega))
    have hcj : ((m1[j]'(by omega)).take k)[c]'(by rw [List.length_take, rl1 j hjk]; omega) = colB (rowB m1 j) c := by
      rw [List.getElem_take, row_lt (by omega), col_lt (by rw [rl1 j hjk]; omega)]
    refine hrow.get1 c rfl (by rw [List.length_take, rl1 j hjk]; omega) _ rfl ?_
    rw [hcj]
    refine br_eq (fun e0 => ?_) (fun e0 => ?_)
    · have : j ≠ ix := fun hh => hbs.2.2 (by rw [← hh]; exact nat0.1 e0)
      exact ⟨j + 1, by rw [Go.Vc.wrap_small _ (by omega) (by omega)]; rfl, ⟨rfl, by omega, by omega⟩, by omega⟩
    have hji : j = ix := by
      by_cases hh : j < ix
      · exact absurd (by rw [begins_first hbe hj1 hh]; rfl) e0
      · omega
    subst hji
    refine join_in ?_
    have ht0 := H12.seq 1 rfl (fun _ => rfl)
    refine hs0.getS c rfl (by omega) fun _ _ _ => ?_
    refine hs0.getS j rfl (by omega) fun _ _ _ => ?_
    refine ht0.getS c rfl (by omega) fun _ _ _ => ?_
    refine ht0.getS j rfl (by omega) fun _ _ _ => ?_
    refine H12.set C_ok 0 rfl (fun _ => rfl) rfl j rfl (by omega) (rs1[c]'(by omega)) rfl rfl rfl fun h14 H14 => ⟨trivial, ?_⟩
    refine H14.set C_ok 0 rfl (fun _ => rfl) rfl c rfl (by simp; omega) (rs1[j]'(by omega)) rfl rfl rfl fun h15 H15 => ⟨trivial, ?_⟩
    refine H15.set C_ok 1 rfl (fun _ => rfl) rfl j rfl (by omega) (qs1[c]'(by omega)) rfl rfl rfl fun h16 H16 => ⟨trivial, ?_⟩
    refine H16.set C_ok 1 rfl (fun _ => rfl) rfl c rfl (by simp; omega) (qs1[j]'(by omega)) rfl rfl rfl fun h17 H17 => ⟨trivial, ?_⟩
    obtain ⟨m2, hm2⟩ : ∃ m2, m2 = swapB m1 c j := ⟨_, rfl⟩
    have em2 : m2 = (m1.set j (rowB m1 c)).set c (rowB m1 j) := by rw [hm2, swapB_comm]; rfl
    obtain ⟨rs2, hrs2⟩ : ∃ x, x = (rs1.set j (rs1[c]'(by omega))).set c (rs1[j]'(by omega)) := ⟨_, rfl⟩
    obtain ⟨qs2, hqs2⟩ : ∃ x, x = (qs1.set j (qs1[c]'(by omega))).set c (qs1[j]'(by omega)) := ⟨_, rfl⟩
    have ip2 : inPool pool1 (List.take k) rs2 m2 := by
      rw [em2, hrs2, row_lt (by omega), row_lt (by omega)]
      exact (ip1.set j (ip1.get (by omega))).set c (ip1.get (by omega))
    have iq2 : inPool pool1 (List.drop k) qs2 m2 := by
      rw [em2, hqs2, row_lt (by omega), row_lt (by omega)]
      exact (iq1.set j (iq1.get (by omega))).set c (iq1.get (by omega))
    have H17' : Sp h2 h17 [OwnA T_sl_uint8 s 1 slv rs2, OwnA T_sl_uint8 t 1 slv qs2, PoolA pool1] := by rw [hrs2, hqs2]; exact H17
    have hl2 : m2.length = k := by rw [hm2, swap_len']; exact hl1
    have hev2 : evenB (k + w) m2 := by rw [hm2]; exact swap_even hev.1 (by omega) (by omega)
    have r2l := ip2.1
    have q2l := iq2.1
    have rl2 : ∀ i (hi : i < k), (m2[i]'(by omega)).length = k + w := fun i hi => hev2 _ (List.getElem_mem _)
    have hs1 := H17'.seq 0 rfl (fun _ => rfl)
    have ht1 := H17'.seq 1 rfl (fun _ => rfl)
    refine hs1.getS c rfl (by omega) fun _ _ _ => ?_
    have hrow2 := H17'.poolRd 2 rfl (ip2.get (show c < m2.length by omega))
    have hcc : ((m2[c]'(by omega)).take k)[c]'(by rw [List.length_take, rl2 c hck]; omega) = colB (rowB m2 c) c := by
      rw [List.getElem_take, row_lt (by omega), col_lt (by rw [rl2 c hck]; omega)]
    refine hrow2.get1 c rfl (by rw [List.length_take, rl2 c hck]; omega) _ rfl ?_
    rw [hcc]
    refine (refInv_spec _ h17).mono ?_
    rintro v h18 ⟨rfl, rfl⟩
    refine ⟨_, rfl, join_in ?_⟩
    refine hs1.getS c rfl (by omega) fun _ _ _ => ?_
    refine ht1.getS c rfl (by omega) fun a44 hc44 _ => ?_
    dsimp only
    refine (refScale_spec _ _ _ h18 hrow2 (by rw [List.length_take, rl2 c hck]; omega)).mono ?_
    rintro v h19 ⟨ra, rfl, R19⟩
    refine ⟨ra, rfl, ⟨held_up hc44 R19.pres, trivial⟩, ?_⟩
    have H19 := H17'.comp R19
    refine (refScale_spec _ _ _ h19 (H19.poolRd 2 rfl (iq2.get (show c < m2.length by omega))) (by rw [List.length_drop, rl2 c hck]; omega)).mono ?_
    rintro v h20 ⟨rb, rfl, R20⟩
    refine ⟨rb, rfl, trivial, ?_⟩
    have H20 := H19.comp R20
    refine H20.set C_ok 0 rfl (fun _ => rfl) rfl c rfl (by omega) ra rfl rfl rfl fun h21 H21 => ⟨trivial, ?_⟩
    refine H21.set C_ok 1 rfl (fun _ => rfl) rfl c rfl (by omega) rb rfl rfl rfl fun h22 H22 => ⟨trivial, ?_⟩
    have H23 := take3 ((((H22.freeze 3 rfl (fun _ => rfl)).freeze 4 rfl (fun _ => rfl)).pool 2 3 (by decide) rfl rfl).pool 2 4 (by decide) rfl rfl)
    obtain ⟨m3, hm3⟩ : ∃ m3, m3 = normB c c m2 := ⟨_, rfl⟩
    obtain ⟨rs3, hrs3⟩ : ∃ x, x = rs2.set c ra := ⟨_, rfl⟩
    obtain ⟨qs3, hqs3⟩ : ∃ x, x = qs2.set c rb := ⟨_, rfl⟩
    obtain ⟨pool3, hpool3⟩ : ∃ x, x = (rb, scaleB (Gf.inv (colB (rowB m2 c) c)) ((m2[c]'(by omega)).drop k)) :: (ra, scaleB (Gf.inv (colB (rowB m2 c) c)) ((m2[c]'(by omega)).take k)) :: pool1 := ⟨_, rfl⟩
    have ip3 : inPool pool3 (List.take k) rs3 m3 := by
      rw [hm3, hrs3, normB, hpool3]
      refine (ip2.mono fun x hx => List.mem_cons_of_mem _ (List.mem_cons_of_mem _ hx)).set c ?_
      rw [scale_cut, ← row_lt (show c < m2.length by omega)]; simp
    have iq3 : inPool pool3 (List.drop k) qs3 m3 := by
      rw [hm3, hqs3, normB, hpool3]
      refine (iq2.mono fun x hx => List.mem_cons_of_mem _ (List.mem_cons_of_mem _ hx)).set c ?_
      rw [scale_drop, ← row_lt (show c < m2.length by omega)]; simp
    have H23' : Sp h2 h22 [OwnA T_sl_uint8 s 1 slv rs3, OwnA T_sl_uint8 t 1 slv qs3, PoolA pool3] := by rw [hrs3, hqs3, hpool3]; exact H23
    have hl3 : m3.length = k := by rw [hm3, norm_len]; exact hl2
    have hev3 : evenB (k + w) m3 := by rw [hm3]; exact norm_even hev2 (by omega)
    have hstep : (reduceB M (c + 1)).2 = elimB c c m3 k := by rw [hst, hm3, hm2, hl1]
    refine loop_inv (fun u : Nat × List Sl × List Sl × List (Sl × Row) => (u.1 : Int))
      (fun u h' => u.1 ≤ k ∧ Sp h2 h' [OwnA T_sl_uint8 s 1 slv u.2.1, OwnA T_sl_uint8 t 1 slv u.2.2.1, PoolA u.2.2.2] ∧ inPool u.2.2.2 (List.take k) u.2.1 (elimB c c m3 u.1) ∧ inPool u.2.2.2 (List.drop k) u.2.2.1 (elimB c c m3 u.1))
      (fun u => k - u.1) (0, rs3, qs3, pool3) rfl ⟨by simp, H23', by rw [elim_zero]; exact ip3, by rw [elim_zero]; exact iq3⟩ ?_
    rintro ⟨i, rs4, qs4, pool4⟩ h25 ⟨hi, H25, ip4, iq4⟩
    dsimp only at *
    have hel := elim_len c c m3 i
    have r4l := ip4.1
    have q4l := iq4.1
    refine br_dec (fun e2 => ?_) (fun e2 => ?_)
    · have hik : i < k := by omega
      have eri : (elimB c c m3 i)[i]'(by omega) = rowB m3 i := by rw [← row_lt (by omega), elim_row (by omega), if_neg (by omega)]
      have erc : (elimB c c m3 i)[c]'(by omega) = rowB m3 c := by rw [← row_lt (by omega), elim_row (by omega), if_neg (by omega)]
      have li : (rowB m3 i).length = k + w := even_row hev3 (by omega)
      have lc : (rowB m3 c).length = k + w := even_row hev3 (by omega)
      have hs4 := H25.seq 0 rfl (fun _ => rfl)
      have ht4 := H25.seq 1 rfl (fun _ => rfl)
      have xi := H25.poolRd 2 rfl (ip4.get (show i < (elimB c c m3 i).length by omega))
      have xc := H25.poolRd 2 rfl (ip4.get (show c < (elimB c c m3 i).length by omega))
      have yi := H25.poolRd 2 rfl (iq4.get (show i < (elimB c c m3 i).length by omega))
      have yc := H25.poolRd 2 rfl (iq4.get (show c < (elimB c c m3 i).length by omega))
      rw [eri] at xi yi
      rw [erc] at xc yc
      refine hs4.getS i rfl (by omega) fun _ _ _ => ?_
      have hci : ((rowB m3 i).take k)[c]'(by rw [List.length_take, li]; omega) = colB (rowB m3 i) c := by rw [List.getElem_take, col_lt (by omega)]
      refine xi.get1 c rfl (by rw [List.length_take, li]; omega) _ rfl ?_
      rw [hci]
      rw [Go.Vc.wrap_small ((i : Int) + 1) (by omega) (by omega)]
      have skip : elimB c c m3 (i + 1) = elimB c c m3 i → ∃ t' : Nat × List Sl × List Sl × List (Sl × Row), (i : Int) + 1 = (t'.1 : Int) ∧ (t'.1 ≤ k ∧ Sp h2 h25 [OwnA T_sl_uint8 s 1 slv t'.2.1, OwnA T_sl_uint8 t 1 slv t'.2.2.1, PoolA t'.2.2.2] ∧ inPool t'.2.2.2 (List.take k) t'.2.1 (elimB c c m3 t'.1) ∧ inPool t'.2.2.2 (List.drop k) t'.2.2.1 (elimB c c m3 t'.1)) ∧ k - t'.1 < k - i := fun hsk =>
        ⟨(i + 1, rs4, qs4, pool4), rfl, ⟨by dsimp only; omega, H25, by dsimp only; rw [hsk]; exact ip4, by dsimp only; rw [hsk]; exact iq4⟩, by dsimp only; omega⟩
      refine join_in ?_
      refine br_ne (fun e3 => ?_) (fun e3 => br_f rfl (skip ?_))
      · have hic : i ≠ c := fun hh => e3 (by rw [hh])
        refine br_ne (fun e4 => ?_) (fun e4 => skip ?_)
        · refine hs4.getS c rfl (by omega) fun _ _ _ => ?_
          refine hs4.getS i rfl (by omega) fun _ _ _ => ?_
          refine ht4.getS c rfl (by omega) fun a61 hc61 _ => ?_
          refine ht4.getS i rfl (by omega) fun a63 hc63 _ => ?_
          refine (refAxpy_spec _ _ _ _ _ h25 xc xi (by simp [li, lc]) (by rw [List.length_take, li]; omega)).mono ?_
          rintro v h27 ⟨ra, rfl, R27⟩
          refine ⟨ra, rfl, ⟨held_up hc63 R27.pres, held_up hc61 R27.pres, trivial⟩, ?_⟩
          have H27 := H25.comp R27
          refine (refAxpy_spec _ _ _ _ _ h27 (Seq.up yc R27.pres) (Seq.up yi R27.pres) (by simp [li, lc]) (by rw [List.length_drop, li]; omega)).mono ?_
          rintro v h28 ⟨rb, rfl, R28⟩
          refine ⟨rb, rfl, trivial, ?_⟩
          have H28 := H27.comp R28
          refine H28.set C_ok 0 rfl (fun _ => rfl) rfl i rfl (by omega) ra rfl rfl rfl fun h29 H29 => ⟨trivial, ?_⟩
          refine H29.set C_ok 1 rfl (fun _ => rfl) rfl i rfl (by omega) rb rfl rfl rfl fun h30 H30 => ⟨trivial, ?_⟩
          have H31 := take3 ((((H30.freeze 3 rfl (fun _ => rfl)).freeze 4 rfl (fun _ => rfl)).pool 2 3 (by decide) rfl rfl).pool 2 4 (by decide) rfl rfl)
          refine ⟨(i + 1, rs4.set i ra, qs4.set i rb, _), rfl, ⟨by dsimp only; omega, H31, ?_, ?_⟩, by dsimp only; omega⟩
          · dsimp only
            rw [elim_succ (by omega) hic]
            refine (ip4.mono fun x hx => List.mem_cons_of_mem _ (List.mem_cons_of_mem _ hx)).set i ?_
            rw [add_cut]; simp
          · dsimp only
            rw [elim_succ (by omega) hic]
            refine (iq4.mono fun x hx => List.mem_cons_of_mem _ (List.mem_cons_of_mem _ hx)).set i ?_
            rw [add_drop]; simp
        · have hz : colB (rowB m3 i) c = 0 := nat0.1 e4
          rw [elim_succ (by omega) hic, hz, add_nought (by omega)]
          apply List.ext_getElem?
          intro x
          rw [List.getElem?_set]
          split
          · rename_i hkj
            subst hkj
            rw [if_pos (by omega), List.getElem?_eq_getElem (by omega), eri]
          · rfl
      · have hic : i = c := by omega
        subst hic
        exact elim_skip
    · have hie : i = k := by omega
      subst hie
      refine ⟨(c + 1, rs4, qs4, pool4), by dsimp only; rw [Go.Vc.wrap_small _ (by omega) (by omega)]; rfl, ⟨by dsimp only; omega, H25, ?_, ?_⟩, by dsimp only; omega⟩
      · dsimp only; rw [hstep]; exact ip4
      · dsimp only; rw [hstep]; exact iq4
  have hcn : c = k := by omega
  subst hcn
  refine loop_inv (fun _ : Unit => (c : Int)) (fun _ h' => h' = h12) (fun _ => 0) () rfl rfl ?_
  rintro _ h31 rfl
  refine br_dec (fun e => by omega) fun _ => ?_
  refine ⟨⟨Int.natCast_nonneg _, Int.ofNat_le.2 (show c ≤ t.cap by omega)⟩, ?_⟩
  have esol : solB c A Bm = m1.map (List.drop c) := by rw [solB, ← hM, ← hm1, List.take_of_length_le (by omega)]
  have et : t = ⟨t.ptr, c, t.cap⟩ := by
    have : t.len = c := by omega
    obtain ⟨p, l, cc⟩ := t
    simp only at this ⊢; rw [this]
  have HR := H12.poolRows 1 2 (by decide) (ll := solB c A Bm) rfl rfl (by rw [esol, List.length_map]; exact q1l) (fun i r l h1 h2 => by
    rw [esol, List.getElem?_map] at h2
    cases hmi : m1[i]? with
    | none => rw [hmi] at h2; cases h2
    | some x => rw [hmi] at h2; cases h2; exact iq1.2 i r x h1 hmi)
  rw [Int.toNat_natCast]
  refine ⟨⟨t.ptr, c, t.cap⟩, rfl, ?_⟩
  rw [← et]
  exact HR.take 1 (fun i A hi => by cases i with | zero => exact hi | succ i => simp at hi)
end Go.Proofs.YtgcbahhnnphejaaGreat
