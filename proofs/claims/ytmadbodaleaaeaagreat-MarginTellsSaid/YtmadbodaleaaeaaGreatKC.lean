/- Part of the proof that wellspringlaw27's MarginTells answers true whatever the input reads, and leaves it as it was; no condition. -/
import Derived.Test.YtmadbodaleaaeaaGreatKA
import Derived.Test.YtmadbodaleaaeaaGreatKB
set_option linter.unusedVariables false
set_option linter.unusedSimpArgs false
namespace Go.Proofs.YtmadbodaleaaeaaGreat
open Go Go.Vc Go.Proofs Wl
set_option maxRecDepth 100000
/-! ### The reference: sets, what is left, the first weak set -/
theorem ch_pos : ∀ (n k : Nat), k ≤ n → 1 ≤ ch n k
  | n, 0, _ => by rw [ch_zero]; exact Nat.le_refl _
  | 0, k + 1, h => by omega
  | n + 1, k + 1, h => by have := ch_pos n k (by omega); rw [ch]; omega
def cut1 (n k : Nat) : Nat := min (ch n k) 4097
def pasL (t i j : Nat) : List Int := (List.range (t + 1)).map fun k => if j < k then ((cut1 (i + 1) k : Nat) : Int) else ((cut1 i k : Nat) : Int)
theorem pas_len (t i j : Nat) : (pasL t i j).length = t + 1 := by simp [pasL]
theorem pas_get {t i j k : Nat} (h : k < t + 1) : (pasL t i j)[k]'(by rw [pas_len]; exact h) = if j < k then ((cut1 (i + 1) k : Nat) : Int) else ((cut1 i k : Nat) : Int) := by simp [pasL]
theorem refCount_spec (n t : Int) (h : Heap) : Meets Tryz.prog wellspringref21_Count_id #[.int .i64 n, .int .i64 t] h fun v h' => v = .int .i64 (countI n t) ∧ Sp h h' [] := by
  refine wellspringref21_Count_run n t ?_
  unfold wellspringref21_Count_m
  have zero : ¬ (0 ≤ n ∧ n ≤ 64 ∧ 0 ≤ t ∧ t ≤ n) → Value.int .i64 0 = .int .i64 (countI n t) ∧ Sp h h [] := fun hh => ⟨by unfold countI; rw [if_neg hh], Sp.refl h⟩
  refine join_in ?_
  refine br_dec (fun e => zero (by omega)) fun e1 => br_dec (fun e => zero (by omega)) fun e2 => br_dec (fun e => zero (by omega)) fun e3 => br_dec (fun e => zero (by omega)) fun e4 => ?_
  obtain ⟨N, rfl⟩ : ∃ N : Nat, n = N := ⟨n.toNat, by omega⟩
  obtain ⟨T, rfl⟩ : ∃ T : Nat, t = T := ⟨t.toNat, by omega⟩
  rw [Go.Vc.wrap_small _ (by omega) (by omega)]
  refine (Sp.refl h).make C_ok intv eInt (by decide) 0 rfl rfl (T + 1) (T + 1) rfl rfl (Nat.le_refl _) (by omega) fun s h1 hsl hc H1 => ?_
  refine H1.set C_ok 0 rfl (fun _ => rfl) rfl 0 rfl (by simp) (1 : Int) rfl rfl rfl fun h2 H2 => ?_
  have e0 : (List.replicate (T + 1) (0 : Int)).set 0 1 = pasL T 0 T := by
    apply List.ext_getElem (by rw [List.length_set, List.length_replicate, pas_len])
    intro k h3 h4
    rw [pas_len] at h4
    rw [pas_get h4, if_neg (by omega), List.getElem_set]
    cases k with
    | zero => simp [cut1, ch_zero]
    | succ k => simp [cut1, ch]
  rw [e0] at H2
  refine loop_inv (fun i : Nat => (i : Int)) (fun i h' => i ≤ N ∧ Sp h h' [OwnA T_int s 1 intv (pasL T i T)]) (fun i => N - i) 0 rfl ⟨by omega, H2⟩ ?_
  rintro i h3 ⟨hi, H3⟩
  refine br_dec (fun e => ?_) (fun e => ?_)
  · refine loop_inv (fun j : Nat => (j : Int)) (fun j h' => j ≤ T ∧ Sp h h' [OwnA T_int s 1 intv (pasL T i j)]) (fun j => j) T rfl ⟨by omega, H3⟩ ?_
    rintro j h4 ⟨hj, H4⟩
    refine br_dec (fun e5 => ?_) (fun e5 => ?_)
    · have hj1 : 0 < j := by omega
      have c1 : cut1 i j ≤ 4097 := by unfold cut1; omega
      have c2 : cut1 i (j - 1) ≤ 4097 := by unfold cut1; omega
      have hr := H4.seq 0 rfl (fun _ => rfl)
      refine hr.get1 j rfl (by rw [pas_len]; omega) _ rfl ?_
      refine hr.get1 (j - 1) (by rw [Go.Vc.wrap_small _ (by omega) (by omega)]; omega) (by rw [pas_len]; omega) _ rfl ?_
      rw [pas_get (by omega), pas_get (by omega), if_neg (show ¬ j < j by omega), if_neg (show ¬ j < j - 1 by omega), Go.Vc.wrap_small ((cut1 i j : Nat) + (cut1 i (j - 1) : Nat) : Int) (by omega) (by omega), Go.Vc.wrap_small ((j : Int) - 1) (by omega) (by omega)]
      have hv : (if (4097 : Int) < ((cut1 i j : Nat) : Int) + ((cut1 i (j - 1) : Nat) : Int) then (4097 : Int) else ((cut1 i j : Nat) : Int) + ((cut1 i (j - 1) : Nat) : Int)) = ((cut1 (i + 1) j : Nat) : Int) := by
        have hch : ch (i + 1) j = ch i (j - 1) + ch i j := by
          obtain ⟨d, rfl⟩ : ∃ d, j = d + 1 := ⟨j - 1, by omega⟩
          rfl
        unfold cut1
        rw [hch]
        split <;> omega
      rw [hv]
      refine H4.set C_ok 0 rfl (fun _ => rfl) rfl j rfl (by rw [pas_len]; omega) ((cut1 (i + 1) j : Nat) : Int) rfl rfl rfl fun h5 H5 => ⟨trivial, ?_⟩
      refine ⟨j - 1, by omega, ⟨by omega, ?_⟩, by omega⟩
      have e6 : (pasL T i j).set j ((cut1 (i + 1) j : Nat) : Int) = pasL T i (j - 1) := by
        apply List.ext_getElem (by rw [List.length_set, pas_len, pas_len])
        intro k h6 h7
        rw [pas_len] at h7
        rw [List.getElem_set]
        by_cases hk : j = k
        · subst hk; rw [if_pos rfl, pas_get h7, if_pos (by omega)]
        · rw [if_neg hk, pas_get h7, pas_get h7]
          by_cases h8 : j < k
          · rw [if_pos h8, if_pos (by omega)]
          · rw [if_neg h8, if_neg (by omega)]
      rw [e6] at H5; exact H5
    · have hj0 : j = 0 := by omega
      subst hj0
      refine ⟨i + 1, by rw [Go.Vc.wrap_small _ (by omega) (by omega)]; rfl, ⟨by omega, ?_⟩, by omega⟩
      have e6 : pasL T i 0 = pasL T (i + 1) T := by
        apply List.ext_getElem (by rw [pas_len, pas_len])
        intro k h6 h7
        rw [pas_len] at h7
        rw [pas_get h7, pas_get h7, if_neg (show ¬ T < k by omega)]
        cases k with
        | zero => rw [if_neg (by omega)]; simp [cut1, ch_zero]
        | succ k => rw [if_pos (by omega)]
      rw [e6] at H4; exact H4
  · have : i = N := by omega
    subst this
    refine (H3.seq 0 rfl (fun _ => rfl)).get1 T rfl (by rw [pas_len]; omega) _ rfl ?_
    rw [pas_get (by omega), if_neg (by omega)]
    refine ⟨?_, .zip H3.pres⟩
    unfold countI
    rw [if_pos ⟨by omega, by omega, by omega, by omega⟩, Int.toNat_natCast, Int.toNat_natCast]; rfl
theorem flat_take {α β : Type} (l : List α) (g : α → List β) (k : Nat) (hk : k < l.length) : (l.take (k + 1)).flatMap g = (l.take k).flatMap g ++ g l[k] := by
  rw [take_snoc _ _ hk, List.flatMap_append]; simp
theorem from_spec : ∀ (T a n : Nat) (h : Heap), n ≤ 64 → a ≤ 65 → T ≤ 64 → (setsF T a n).length ≤ 4096 →
    Meets Tryz.prog wellspringref21_from_id #[.int .i64 a, .int .i64 n, .int .i64 T] h fun v h' => ∃ r : Sl, v = .slice r.ptr r.len r.cap ∧ Sp h h' [RowsE T_sl_int r 1 slv (EltS 1 intv) ((setsF T a n).map ints)]
  | 0, a, n, h, hn, ha, _, hlen => by
    refine wellspringref21_from_run a n 0 ?_
    unfold wellspringref21_from_m
    refine br_t rfl ?_
    refine (Sp.refl h).lit C_ok slv eSlInt rfl [⟨none, 0, 0⟩] rfl (show 1 * 1 ≤ 2 ^ 20 by decide) rfl fun o h1 H1 => ?_
    refine ⟨o, rfl, ?_⟩
    have H2 : Sp h h1 [EA (EltS 1 intv) ⟨none, 0, 0⟩ [], OwnA T_sl_int o 1 slv [⟨none, 0, 0⟩]] := (H1.comp (.one (Pres.refl _ _) (Seq.nil _ _ _ _ _ _))).front1
    exact (H2.eWrap1 (E := EltS 1 intv) (a := ⟨none, 0, 0⟩) (b := []) 1 0 (by decide) rfl rfl).drop1
  | T + 1, a, n, h, hn, ha, hT, hlen => by
    refine wellspringref21_from_run a n ((T + 1 : Nat) : Int) ?_
    unfold wellspringref21_from_m
    refine br_f (beq_eq_false_iff_ne.2 (by omega)) ?_
    obtain ⟨g, hg⟩ : ∃ g : Nat → List (List Nat), g = fun i => (setsF T (i + 1) n).map (i :: ·) := ⟨_, rfl⟩
    obtain ⟨L, hL⟩ : ∃ L, L = List.range' a (n - T - a) := ⟨_, rfl⟩
    have hsets : setsF (T + 1) a n = L.flatMap g := by rw [hL, hg]; rfl
    have hLl : L.length = n - T - a := by rw [hL]; simp
    have hLg : ∀ k (hk : k < L.length), L[k] = a + k := fun k hk => by subst hL; simp [List.getElem_range']
    have pre : ∀ k, k ≤ L.length → ((L.take k).flatMap g).length ≤ 4096 := fun k hk => by
      rw [hsets] at hlen
      have e : L.flatMap g = (L.take k).flatMap g ++ (L.drop k).flatMap g := by rw [← List.flatMap_append, List.take_append_drop]
      rw [e, List.length_append] at hlen; omega
    refine loop_inv (fun t : Sl × Nat => (t.1, ((a + t.2 : Nat) : Int))) (fun t h' => t.2 ≤ L.length ∧ Sp h h' [RowsE T_sl_int t.1 1 slv (EltS 1 intv) (((L.take t.2).flatMap g).map ints)]) (fun t => L.length - t.2) (⟨none, 0, 0⟩, 0) rfl ⟨by simp, (Sp.refl h).eNil T_sl_int 1 slv (EltS 1 intv)⟩ ?_
    rintro ⟨o, k⟩ h1 ⟨hk, H1⟩
    dsimp only at *
    have hkb : k ≤ 64 := by omega
    rw [Go.Vc.wrap_small (((a + k : Nat) : Int) + ((T + 1 : Nat) : Int)) (by omega) (by omega), Go.Vc.wrap_small (((a + k : Nat) : Int) + 1) (by omega) (by omega), Go.Vc.wrap_small (((T + 1 : Nat) : Int) - 1) (by omega) (by omega)]
    refine br_dec (fun e => ?_) (fun e => ?_)
    · have hk' : k < L.length := by omega
      have hgk : g L[k] = (setsF T (a + k + 1) n).map ((a + k) :: ·) := by rw [hLg k hk', hg]
      have hft := flat_take L g k hk'
      have hsub : (setsF T (a + k + 1) n).length ≤ 4096 := by
        have := pre (k + 1) (by omega)
        rw [hft, List.length_append, hgk, List.length_map] at this; omega
      have e1 : ((a + k : Nat) : Int) + 1 = ((a + k + 1 : Nat) : Int) := by omega
      have e2 : ((T + 1 : Nat) : Int) - 1 = ((T : Nat) : Int) := by omega
      rw [e1, e2]
      refine (from_spec T (a + k + 1) n h1 hn (by omega) (by omega) hsub).mono ?_
      rintro v h2 ⟨r, rfl, R2⟩
      have H2 := H1.comp1 R2
      refine ⟨r, rfl, ?_⟩
      obtain ⟨S, hS⟩ : ∃ S, S = setsF T (a + k + 1) n := ⟨_, rfl⟩
      rw [← hS] at H2 hsub hgk
      have hrl := (H2.eLen 0 rfl).1
      rw [List.length_map] at hrl
      refine loop_inv (fun t : Sl × Nat => (t.1, (t.2 : Int))) (fun t h' => t.2 ≤ S.length ∧ Sp h h' [RowsE T_sl_int r 1 slv (EltS 1 intv) (S.map ints), RowsE T_sl_int t.1 1 slv (EltS 1 intv) (((L.take k).flatMap g ++ (S.take t.2).map ((a + k) :: ·)).map ints)]) (fun t => S.length - t.2) (o, 0) rfl ⟨by simp, by simpa using H2⟩ ?_
      rintro ⟨o, j⟩ h3 ⟨hj, H3⟩
      dsimp only at *
      refine br_dec (fun e5 => ?_) (fun e5 => ?_)
      · have hj' : j < S.length := by omega
        refine EltL.getS (H3.eRd 0 rfl (fun _ => rfl)) j rfl (by simpa using hj') fun x hx => ?_
        have hSj : (S.map ints)[j]'(by simpa using hj') = ints S[j] := by simp
        rw [hSj] at hx
        have hmem : S[j] ∈ setsF T (a + k + 1) n := hS ▸ List.getElem_mem hj'
        have hSl := (mem_sets hmem).1
        refine (Sp.refl h3).lit C_ok intv eInt rfl [((a + k : Nat) : Int)] rfl (show 1 * 1 ≤ 2 ^ 20 by decide) rfl fun q h4 R4 => ?_
        have H4 := H3.comp R4
        refine H4.append C_ok 2 rfl eInt ⟨_, _, rfl, rfl⟩ rfl (by decide) (fun _ => rfl) (Seq.up hx R4.pres) one_int (by rw [ints_len]; simp; omega) fun q' h5 H5 => ?_
        have H6 := (H5.eFrom 2 rfl (fun _ => rfl))
        refine H6.ePush C_ok 1 2 (by decide) (E := EltS 1 intv) (a := q') rfl rfl eSlInt rfl (by decide) (fun _ => rfl) one_sl rfl (by decide) (by
          have := pre (k + 1) (by omega)
          rw [hft, List.length_append, hgk, List.length_map] at this
          rw [List.length_map, List.length_append, List.length_map, List.length_take]; omega) fun s' h7 H7 => ?_
        refine ⟨(s', j + 1), by dsimp only; rw [Go.Vc.wrap_small _ (by omega) (by omega)]; rfl, ⟨by dsimp only; omega, ?_⟩, by dsimp only; omega⟩
        have H8 := H7.del 2
        dsimp only
        have e9 : ((L.take k).flatMap g ++ (S.take (j + 1)).map ((a + k) :: ·)).map ints = ((L.take k).flatMap g ++ (S.take j).map ((a + k) :: ·)).map ints ++ [((a + k : Nat) : Int) :: ints S[j]] := by
          rw [take_snoc _ _ hj']; simp only [List.map_append, List.append_assoc]; rfl
        rw [e9]
        exact H8
      · refine ⟨(o, k + 1), rfl, ⟨by dsimp only; omega, ?_⟩, by dsimp only; omega⟩
        rw [show S.take j = S from List.take_of_length_le (by omega)] at H3
        dsimp only
        rw [hft, hgk]
        exact H3.drop1
    · have : k = L.length := by omega
      subst this
      rw [List.take_length] at H1
      exact ⟨o, rfl, by rw [hsets]; exact H1⟩
theorem refAll_spec (n t : Int) (h : Heap) : Meets Tryz.prog wellspringref21_All_id #[.int .i64 n, .int .i64 t] h fun v h' => ∃ r e, v = .tuple #[.slice r.ptr r.len r.cap, .int .i64 e] ∧
      (if 0 ≤ n ∧ n ≤ 64 ∧ 0 ≤ t ∧ t ≤ n then if countI n t > 4096 then e = 13 ∧ Sp h h' [] else e = 0 ∧ Sp h h' [RowsE T_sl_int r 1 slv (EltS 1 intv) (setsI n.toNat t.toNat)] else e = 1 ∧ Sp h h' []) := by
  refine wellspringref21_All_run n t ?_
  unfold wellspringref21_All_m
  refine (refCount_spec n t h).mono ?_
  rintro v h1 ⟨rfl, R1⟩
  refine ⟨_, rfl, br_eq (fun e => ?_) (fun e => ?_)⟩
  · refine ⟨⟨none, 0, 0⟩, 1, rfl, ?_⟩
    rw [if_neg]; exact ⟨rfl, R1⟩
    intro hh
    have e' : countI n t = 0 := e
    unfold countI at e'
    rw [if_pos hh] at e'
    have := ch_pos n.toNat t.toNat (by omega)
    omega
  · have hh : 0 ≤ n ∧ n ≤ 64 ∧ 0 ≤ t ∧ t ≤ n := Classical.byContradiction fun hh => e (by unfold countI; rw [if_neg hh])
    refine br_dec (fun e2 => ?_) (fun e2 => ?_)
    · refine ⟨⟨none, 0, 0⟩, 13, rfl, ?_⟩
      rw [if_pos hh, if_pos e2]; exact ⟨rfl, R1⟩
    · obtain ⟨N, rfl⟩ : ∃ N : Nat, n = N := ⟨n.toNat, by omega⟩
      obtain ⟨T, rfl⟩ : ∃ T : Nat, t = T := ⟨t.toNat, by omega⟩
      have hl : (setsF T 0 N).length ≤ 4096 := by
        rw [len_sets N T 0 (by omega), Nat.sub_zero]
        have : countI (N : Int) T = ((min (ch N T) 4097 : Nat) : Int) := by unfold countI; rw [if_pos hh]; rfl
        rw [this] at e2
        have e2' : ¬ (((min (ch N T) 4097 : Nat) : Int) > 4096) := e2
        omega
      refine (from_spec T 0 N h1 (by omega) (by omega) (by omega) hl).mono ?_
      rintro v h2 ⟨r, rfl, R2⟩
      refine ⟨r, rfl, r, 0, rfl, ?_⟩
      rw [if_pos hh, if_neg e2]
      exact ⟨rfl, (R1.comp R2)⟩
theorem left_bound {W : List (List Int)} (gone : List Int) (hr : ∀ l ∈ W, l.length ≤ 2 ^ 20) : ∀ k, k ≤ W.length → (leftI W gone k).length ≤ k * 2 ^ 20 := by
  intro k
  induction k with
  | zero => intro _; simp [leftI]
  | succ k ih =>
    intro hk
    have h1 := ih (by omega)
    rw [leftI, List.length_append]
    have h2 : (if (k : Int) ∈ gone then [] else W.getD k []).length ≤ 2 ^ 20 := by
      split
      · simp
      · rw [List.getD_eq_getElem?_getD, List.getElem?_eq_getElem (by omega)]; exact hr _ (List.getElem_mem _)
    omega
theorem others_spec (w g : Sl) (W : List (List Int)) (gone : List Int) (h : Heap) (hW : RdE (EltL (EltS 1 intv) 1 slv) h w W) (hg : Rd h g 1 intv gone) (hl : W.length ≤ 2 ^ 8) (hr : ∀ l ∈ W, l.length ≤ 2 ^ 20) (hgl : gone.length ≤ 2 ^ 30) :
    Meets Tryz.prog wellspringref21_others_id #[.slice w.ptr w.len w.cap, .slice g.ptr g.len g.cap] h fun v h' => ∃ r : Sl, v = .slice r.ptr r.len r.cap ∧ Sp h h' [OwnA T_int r 1 intv (leftI W gone W.length)] := by
  refine wellspringref21_others_run w g ?_
  unfold wellspringref21_others_m
  obtain ⟨ws, hws, hwn, hwr⟩ := EltL.heads hW
  have hwl := hws.len
  refine loop_inv (fun t : Sl × Nat => (t.1, (t.2 : Int))) (fun t h' => t.2 ≤ W.length ∧ Sp h h' [OwnA T_int t.1 1 intv (leftI W gone t.2)]) (fun t => W.length - t.2) (⟨none, 0, 0⟩, 0) rfl ⟨by simp, (Sp.refl h).nil T_int 1 intv⟩ ?_
  rintro ⟨o, k⟩ h2 ⟨hk, H2⟩
  dsimp only at *
  refine br_dec (fun e => ?_) (fun e => ?_)
  · have hk' : k < W.length := by omega
    have hx := hwr k (by omega) hk'
    have hgk : W.getD k [] = W[k] := by rw [List.getD_eq_getElem?_getD, List.getElem?_eq_getElem hk']; rfl
    refine (member_spec g gone k h2 (Seq.up hg H2.pres) (by omega)).mono ?_
    rintro v h3 ⟨rfl, rfl⟩
    refine ⟨_, rfl, br_not (fun hout => ?_) (fun hin => ?_)⟩
    · have hout := of_decide_eq_false hout
      refine (Seq.up hws H2.pres).getH k rfl (by omega) ?_
      generalize ws[k]'(by omega) = x at hx
      have h4 := left_bound gone hr k (by omega)
      have h5 := hr _ (List.getElem_mem hk')
      refine H2.append C_ok 0 rfl eInt ⟨_, _, rfl, rfl⟩ rfl (by decide) (fun _ => rfl) (Seq.up hx H2.pres) one_int (by
        have : k * 2 ^ 20 ≤ 2 ^ 8 * 2 ^ 20 := Nat.mul_le_mul_right _ (by omega)
        omega) fun o' h6 H6 => ?_
      refine ⟨(o', k + 1), by dsimp only; rw [Go.Vc.wrap_small _ (by omega) (by omega)]; rfl, ⟨by dsimp only; omega, ?_⟩, by dsimp only; omega⟩
      dsimp only
      rw [leftI, if_neg hout, hgk]; exact H6
    · have hin := of_decide_eq_true hin
      refine ⟨(o, k + 1), by dsimp only; rw [Go.Vc.wrap_small _ (by omega) (by omega)]; rfl, ⟨by dsimp only; omega, ?_⟩, by dsimp only; omega⟩
      dsimp only
      rw [leftI, if_pos hin, List.append_nil]; exact H2
  · have : k = W.length := by omega
    subst this
    exact ⟨o, rfl, H2⟩
theorem refRank_spec' (p : Pm) (seed : Int) (w g : Sl) (W : List (List Int)) (gone : List Int) (h : Heap) (hW : RdE (EltL (EltS 1 intv) 1 slv) h w W) (hg : Rd h g 1 intv gone) (hl : W.length ≤ 2 ^ 8) (hr : ∀ l ∈ W, l.length ≤ 2 ^ 20) (hgl : gone.length ≤ 2 ^ 30) :
    Meets Tryz.prog wellspringref21_Rank_id #[pmv p, .int .u32 seed, .slice w.ptr w.len w.cap, .slice g.ptr g.len g.cap] h fun v h' => v = .int .i64 (leftRk p seed W gone) ∧ Sp h h' [] := by
  refine wellspringref21_Rank_run p seed w g ?_
  unfold wellspringref21_Rank_m
  refine (Sp.refl h).boxed fun a h1 H1 => ?_
  refine ⟨p, (H1.box 0 rfl).cells0 _ rfl, (others_spec w g W gone h1 (RdE.up hW H1.pres) (Seq.up hg H1.pres) hl hr hgl).mono ?_⟩
  rintro v h2 ⟨r, rfl, R2⟩
  have H2 := H1.comp R2
  have hb := H2.box 0 rfl
  have h4 := left_bound gone hr W.length (Nat.le_refl _)
  refine ⟨r, rfl, ⟨hb.cell0 rfl, hb.cell rfl, hb.cell rfl, trivial⟩, (refRankOf_spec p seed r _ h2 (R2.seq 0 rfl (fun _ => rfl)) (by
    have : W.length * 2 ^ 20 ≤ 2 ^ 8 * 2 ^ 20 := Nat.mul_le_mul_right _ (by omega)
    omega)).mono ?_⟩
  rintro v h3 ⟨rfl, R3⟩
  exact ⟨_, rfl, trivial, rfl, .zip (H2.comp R3).pres⟩
theorem refWeak_spec (p : Pm) (seed : Int) (w : Sl) (W : List (List Int)) (t : Int) (h : Heap) (hW : RdE (EltL (EltS 1 intv) 1 slv) h w W) (hl : W.length ≤ 2 ^ 8) (hr : ∀ l ∈ W, l.length ≤ 2 ^ 20) :
    Meets Tryz.prog wellspringref21_Weak_id #[pmv p, .int .u32 seed, .slice w.ptr w.len w.cap, .int .i64 t] h fun v h' => ∃ r : Sl, v = .tuple #[.slice r.ptr r.len r.cap, .bool (weakR p seed W t).2.1, .int .i64 (weakR p seed W t).2.2] ∧ Sp h h' [EA (EltS 1 intv) r (weakR p seed W t).1] := by
  refine wellspringref21_Weak_run p seed w t ?_
  unfold wellspringref21_Weak_m
  have hwl := EltL.len hW
  have nilE : ∀ {h1 : Heap}, Pres (fun b => b < h.size) h h1 → Sp h h1 [EA (EltS 1 intv) ⟨none, 0, 0⟩ []] := fun hp => .one hp (Seq.nil _ _ _ _ _ _)
  refine (Sp.refl h).boxed fun a h1 H1 => ?_
  refine ⟨p, (H1.box 0 rfl).cells0 _ rfl, (refMay_spec p h1).mono ?_⟩
  rintro v h2 ⟨rfl, R2⟩
  have H2 := H1.comp R2
  refine ⟨_, rfl, br_not (fun e => ?_) (fun e => ?_)⟩
  · refine ⟨⟨none, 0, 0⟩, ?_, ?_⟩ <;> (unfold weakR; rw [if_neg (by simpa using e)])
    exact nilE H2.pres
  · have hp : mayP p = true := e
    refine (refAll_spec (w.len : Int) t h2).mono ?_
    rintro v h3 ⟨r, er, rfl, hA⟩
    rw [hwl] at hA
    have erc : (0 ≤ ((W.length : Nat) : Int) ∧ ((W.length : Nat) : Int) ≤ 64 ∧ 0 ≤ t ∧ t ≤ ((W.length : Nat) : Int)) ↔ (0 ≤ t ∧ t ≤ W.length ∧ W.length ≤ 64) := by omega
    by_cases hc : 0 ≤ t ∧ t ≤ W.length ∧ W.length ≤ 64
    · rw [if_pos (erc.2 hc)] at hA
      by_cases hm : countI W.length t > 4096
      · rw [if_pos hm] at hA
        obtain ⟨rfl, R3⟩ := hA
        refine ⟨(r, 13), rfl, br_ne (fun _ => ?_) (fun e => by cases e)⟩
        refine ⟨⟨none, 0, 0⟩, ?_, ?_⟩ <;> (unfold weakR; rw [if_pos hp, if_pos hc, if_pos hm])
        exact nilE (H2.comp R3).pres
      · rw [if_neg hm] at hA
        obtain ⟨rfl, R3⟩ := hA
        refine ⟨(r, 0), rfl, br_ne (fun e => absurd rfl e) (fun _ => ?_)⟩
        dsimp only
        rw [Int.toNat_natCast] at R3
        have wR : weakR p seed W t = match weakI p seed W t.toNat with | some g => (g, true, 0) | none => ([], false, 0) := by
          unfold weakR; rw [if_pos hp, if_pos hc, if_neg hm]
          cases weakI p seed W t.toNat <;> rfl
        obtain ⟨L, hL⟩ : ∃ L, L = setsI W.length t.toNat := ⟨_, rfl⟩
        rw [← hL] at R3
        have H3 : Sp h h3 [BoxA a T_api_Params [.int .i64 p.1, .int .i64 p.2.1, .int .i64 p.2.2], RowsE T_sl_int r 1 slv (EltS 1 intv) L] := H2.comp R3
        let bad : List Int → Bool := fun g => decide ((leftRk p seed W g : Int) ≠ colsP p)
        have wI : weakI p seed W t.toNat = L.find? bad := by unfold weakI; rw [← hL]
        have hll := (H3.eLen 1 rfl).1
        have hLl : L.length ≤ 4096 := by
          have h6 : countI (W.length : Int) t = ((min (ch W.length t.toNat) 4097 : Nat) : Int) := by unfold countI; rw [if_pos (erc.2 hc)]; rfl
          rw [h6] at hm
          rw [hL, setsI, List.length_map, len_sets _ _ 0 (by omega), Nat.sub_zero]; omega
        refine loop_inv (fun k : Nat => (k : Int)) (fun k h' => k ≤ L.length ∧ (L.take k).find? bad = none ∧ Sp h h' [BoxA a T_api_Params [.int .i64 p.1, .int .i64 p.2.1, .int .i64 p.2.2], RowsE T_sl_int r 1 slv (EltS 1 intv) L]) (fun k => L.length - k) 0 rfl ⟨by omega, by simp, H3⟩ ?_
        rintro k h10 ⟨hk10, hno, H10⟩
        refine br_dec (fun e3 => ?_) (fun e3 => ?_)
        · have hk' : k < L.length := by omega
          refine EltL.getC (H10.eRd 1 rfl (fun _ => rfl)) k rfl hk' fun ad x had hcell hx => ?_
          have hgl : L[k].length ≤ 2 ^ 30 := by
            have hLk : L[k] ∈ setsI W.length t.toNat := by
              have h0 : L[k] ∈ L := List.getElem_mem hk'
              generalize L[k] = y at h0
              rw [hL] at h0; exact h0
            obtain ⟨g, hg, hg2⟩ := List.mem_map.1 hLk
            have := (mem_sets hg).1
            rw [← hg2, ints_len, this]
            have := hc.2.1
            have := hc.2.2
            omega
          refine ⟨p, (H10.box 0 rfl).cells0 _ rfl, (others_spec w x W L[k] h10 (RdE.up hW H10.pres) hx hl hr hgl).mono ?_⟩
          rintro v h11 ⟨o, rfl, R11⟩
          have hb11 := (H10.up R11.pres).box 0 rfl
          have h4 := left_bound L[k] hr W.length (Nat.le_refl _)
          refine ⟨o, rfl, ⟨hb11.cell0 rfl, hb11.cell rfl, hb11.cell rfl, trivial⟩, (refFull_spec p seed o _ h11 (R11.seq 0 rfl (fun _ => rfl)) (by
            have : W.length * 2 ^ 20 ≤ 2 ^ 8 * 2 ^ 20 := Nat.mul_le_mul_right _ (by omega)
            omega)).mono ?_⟩
          rintro v h12 ⟨rfl, R12⟩
          have hfull : fullI p seed (leftI W L[k] W.length) = !bad L[k] := by
            show _ = !decide ((leftRk p seed W L[k] : Int) ≠ colsP p)
            unfold fullI leftRk
            rw [hp, Bool.true_and]
            by_cases hh : (rankI p seed (leftI W L[k] W.length) : Int) = colsP p
            · simp [hh]
            · simp [hh]
          rw [hfull]
          have P12 := up R11.pres R12.pres
          have H12 := H10.up P12
          refine ⟨_, rfl, trivial, br_not (fun e4 => ?_) (fun e4 => ?_)⟩
          · have hb4 : bad L[k] = true := by simpa using e4
            have hf := find_take bad L hk' hno
            rw [if_pos hb4] at hf
            have hw2 : weakR p seed W t = (L[k], true, 0) := by rw [wR, wI, find_more bad L hf]
            refine ⟨x, by rw [hw2], ?_⟩
            rw [hw2]
            have h12 := H12.eFreeze 1 rfl (fun _ => rfl)
            have hcell' := held_up hcell P12
            have h13 := h12.weak (D := EA (EltS 1 intv) x L[k]) 1 rfl fun q hq => EltL.pick hq k hk' had hcell'
            exact h13.take 1 fun i A' hi => by cases i with | zero => exact hi | succ i => simp at hi
          · have hb4 : bad L[k] = false := by simpa using e4
            have hf := find_take bad L hk' hno
            rw [hb4] at hf
            exact ⟨k + 1, by rw [Go.Vc.wrap_small _ (by omega) (by omega)]; rfl, ⟨by omega, hf, H12⟩, by omega⟩
        · rw [List.take_of_length_le (by omega)] at hno
          have hw2 : weakR p seed W t = ([], false, 0) := by rw [wR, wI, hno]
          refine ⟨⟨none, 0, 0⟩, by rw [hw2], ?_⟩
          rw [hw2]; exact nilE H10.pres
    · rw [if_neg (fun hh => hc (erc.1 hh))] at hA
      obtain ⟨rfl, R3⟩ := hA
      refine ⟨(r, 1), rfl, br_ne (fun _ => ?_) (fun e => by cases e)⟩
      refine ⟨⟨none, 0, 0⟩, ?_, ?_⟩ <;> (unfold weakR; rw [if_pos hp, if_neg hc])
      exact nilE (H2.comp R3).pres
theorem rowsE_int_spec {q1 q2 : Blocks} (a b : Sl) (la lb : List (List Int)) (h : Heap) (ha : (EltL (EltS 1 intv) 1 slv).p h q1 a la) (hb : (EltL (EltS 1 intv) 1 slv).p h q2 b lb) (hs : la.length ≤ 2 ^ 40) (hss : ∀ r ∈ la, r.length ≤ 2 ^ 40) :
    Meets Tryz.prog wellspringkeep_Rows_int_id #[.slice a.ptr a.len a.cap, .slice b.ptr b.len b.cap] h fun v h' => v = .bool (decide (la = lb)) ∧ h' = h := by
  refine wellspringkeep_Rows_int_run a b ?_
  unfold wellspringkeep_Rows_int_m
  have hal := EltL.len ha; have hbl := EltL.len hb
  refine br_ne (fun hne => ?_) (fun heq => ?_)
  · refine ⟨?_, rfl⟩
    rw [decide_eq_false]
    intro e; subst e; omega
  · have hl : la.length = lb.length := by omega
    refine loop_inv (fun k : Nat => (k : Int)) (fun k h' => h' = h ∧ k ≤ la.length ∧ la.take k = lb.take k) (fun k => la.length - k) 0 rfl ⟨rfl, by omega, rfl⟩ ?_
    rintro k h' ⟨rfl, hk, ht⟩
    refine br_dec (fun hlt => ?_) (fun hge => ?_)
    · have hk' : k < la.length := by omega
      refine EltL.getS ha k rfl hk' fun r1 hr1 => ?_
      refine EltL.getS hb k rfl (by omega) fun r2 hr2 => ?_
      refine (same_int_spec r1 r2 la[k] lb[k] h' hr1 hr2 (hss _ (List.getElem_mem hk'))).mono ?_
      rintro v h3 ⟨rfl, rfl⟩
      refine ⟨_, rfl, trivial, ?_⟩
      rw [Go.Vc.wrap_small _ (by omega) (by omega)]
      refine br_not (fun hd => ?_) (fun hd => ?_)
      · refine ⟨?_, rfl⟩
        rw [decide_eq_false]
        intro e; subst e
        exact of_decide_eq_false hd rfl
      · refine ⟨k + 1, by simp, ⟨rfl, by omega, ?_⟩, by omega⟩
        have hd := of_decide_eq_true hd
        rw [take_snoc _ _ hk', take_snoc lb k (by omega), ht]
        rw [show la[k] = lb[k] from hd]
    · refine ⟨?_, rfl⟩
      rw [List.take_of_length_le (by omega), List.take_of_length_le (by omega)] at ht
      rw [decide_eq_true ht]
end Go.Proofs.YtmadbodaleaaeaaGreat

namespace Go.Proofs.YtmadbodaleaaeaaGreat
open Go Go.Vc Go.Proofs Wl
set_option maxRecDepth 100000
def v3 (p : Int × Int × Int) : List Value := [.int .i64 p.1, .int .i64 p.2.1, .int .i64 p.2.2]
theorem one_v3 : ∀ x, ∀ c ∈ v3 x, c.oneCell' = true := fun x c hc => by
  simp only [v3, List.mem_cons, List.not_mem_nil, or_false] at hc
  rcases hc with rfl | rfl | rfl <;> rfl
set_option maxHeartbeats 8000000 in
theorem mtells_spec (p : Pm) (a b c seed : Int) (l : Sl) (ml : List Int) (n t : Int) (g : Sl) (mg : List Int) (h : Heap) (hl : Rd h l 1 intv ml) (hg : Rd h g 1 intv mg) (hgc : g.len ≤ g.cap) :
    Meets Tryz.prog wellspringlaw27_MarginTells_id #[pmv p, .int .i64 a, .int .i64 b, .int .i64 c, .int .u64 seed, .slice l.ptr l.len l.cap, .int .i64 n, .int .i64 t, .slice g.ptr g.len g.cap] h fun v h' => v = .bool true ∧ Pres (fun b => b < h.size) h h' := by
  refine wellspringlaw27_MarginTells_run p a b c seed l n t g ?_
  unfold wellspringlaw27_MarginTells_m
  refine (Sp.refl h).boxed fun a1 h1 H1 => ?_
  refine (within_spec n 6 h1 (by decide) (by decide)).mono ?_
  rintro v h2 ⟨rfl, rfl⟩
  refine ⟨_, rfl, ?_⟩
  dsimp only
  obtain ⟨m, hm⟩ : ∃ m : Nat, 1 + n % 6 = m := ⟨(1 + n % 6).toNat, by omega⟩
  rw [hm, Go.Vc.wrap_small (m : Int) (by omega) (by omega)]
  have hm2 : 1 ≤ m ∧ m ≤ 6 := by omega
  refine (where_spec l ml m h2 (Seq.up hl H1.pres) (by omega) (by omega)).mono ?_
  rintro v h3 ⟨w, rfl, R3⟩
  have H3 := H1.comp R3
  obtain ⟨W, hW⟩ : ∃ W, W = whereW ml m := ⟨_, rfl⟩
  have hWl : W.length = m := by rw [hW]; exact where_len _ _ _
  have hWr : ∀ l ∈ W, l.length ≤ 2 ^ 20 := fun l hl => by
    rw [hW] at hl
    have h8 := where_row _ _ _ l hl
    have : (idsOf ml 40).length ≤ 40 := by simp [idsOf]; omega
    omega
  rw [← hW] at H3
  have hgl := hg.len
  refine ⟨w, rfl, (wellspringkeep_Cut_int_run g 8 (R := fun v h' => v = .slice g.ptr (min 8 mg.length) g.cap ∧ h' = h3) ?_).mono ?_⟩
  · unfold wellspringkeep_Cut_int_m
    have e : (if (8 : Int) < ((g.len : Nat) : Int) then (8 : Int) else ((g.len : Nat) : Int)) = ((min 8 mg.length : Nat) : Int) := by split <;> omega
    rw [e]
    exact ⟨⟨by omega, by omega⟩, rfl, rfl⟩
  rintro v h4 ⟨rfl, rfl⟩
  refine ⟨⟨g.ptr, min 8 mg.length, g.cap⟩, rfl, ?_⟩
  have hgr : Rd h ⟨g.ptr, min 8 mg.length, g.cap⟩ 1 intv (mg.take (min 8 mg.length)) := hg.take _ (by omega)
  obtain ⟨G, hG⟩ : ∃ G, G = mg.take (min 8 mg.length) := ⟨_, rfl⟩
  have hGl : G.length ≤ 8 := by rw [hG]; simp; omega
  rw [← hG] at hgr
  generalize (⟨g.ptr, min 8 mg.length, g.cap⟩ : Sl) = g' at hgr
  refine (within_spec t 5 h4 (by decide) (by decide)).mono ?_
  rintro v h5 ⟨rfl, rfl⟩
  refine ⟨_, rfl, ?_⟩
  dsimp only
  rw [Go.Vc.wrap_small (t % 5 - 1) (by omega) (by omega)]
  generalize t % 5 - 1 = k
  refine join_cut (fun _ h' => Pres (fun b => b < h.size) h h') ?_ ?_
  · refine join_cut (fun s h' => s.2.1 = 2 ∧ s.2.2 = 0 ∧ Sp h h' [OwnA T_api_Params s.1 3 v3 [p, smallP a b c], RowsE T_sl_int w 1 slv (EltS 1 intv) W] ∧ s.1.len = 2) ?_ ?_
    · refine ⟨p, (H3.box 0 rfl).cells0 _ rfl, (small_spec a b c h5).mono ?_⟩
      rintro v h6 ⟨rfl, R6⟩
      have H6 := H3.up R6.pres
      have hb6 := H6.box 0 rfl
      refine ⟨smallP a b c, rfl, ⟨hb6.cell0 rfl, hb6.cell rfl, hb6.cell rfl, trivial⟩, ?_⟩
      refine H6.lit C_ok v3 (⟨_, _, rfl, rfl, rfl, rfl, rfl, rfl⟩ : ElemOk C.toCfg T_sl_api_Params T_api_Params 3 [.int .i64 0, .int .i64 0, .int .i64 0] 24) rfl [p, smallP a b c] rfl (show 2 * 3 ≤ 2 ^ 20 by decide) rfl fun q h7 H7 => ⟨trivial, ?_⟩
      have hql := (H7.own 2 rfl).len
      exact ⟨by show ((q.len : Nat) : Int) = 2; rw [hql]; rfl, rfl, H7.front1.drop2, hql⟩
    · rintro ⟨q, x, y⟩ h8 ⟨rfl, rfl, H8, hql⟩
      dsimp only at *
      refine loop_inv (fun i : Nat => (i : Int)) (fun i h' => i ≤ 2 ∧ Sp h h' [OwnA T_api_Params q 3 v3 [p, smallP a b c], RowsE T_sl_int w 1 slv (EltS 1 intv) W]) (fun i => 2 - i) 0 rfl ⟨by omega, H8⟩ ?_
      rintro i h9 ⟨hi, H9⟩
      refine br_dec (fun e => ?_) (fun e => H9.pres)
      have hi' : i < 2 := by omega
      obtain ⟨r, hr⟩ : ∃ r, r = [p, smallP a b c][i]'(by simpa using hi') := ⟨_, rfl⟩
      refine (H9.seq 0 rfl (fun _ => rfl)).getk (g := v3) i rfl (by simpa using hi') _ rfl ?_
      rw [← hr]
      refine H9.alloc C_ok rfl fun a13 h10 H10 => ?_
      refine H10.storeAll C_ok 2 rfl rfl (v3 r) rfl rfl rfl rfl fun h11 H11 => ?_
      have H11' : Sp h h11 [OwnA T_api_Params q 3 v3 [p, smallP a b c], RowsE T_sl_int w 1 slv (EltS 1 intv) W, BoxA a13 T_api_Params (v3 r)] := H11
      refine ⟨r, (H11'.box 2 rfl).cells0 _ rfl, (seed_spec r seed h11).mono ?_⟩
      rintro v h12 ⟨s, rfl, R12⟩
      have H12 := H11'.up R12.pres
      refine ⟨s, rfl, (copies_int_spec w W h12 (H12.eRd 1 rfl (fun _ => rfl)) (by omega) hWr).mono ?_⟩
      rintro v h13 ⟨o, rs, rfl, hrs, R13⟩
      have hol := (R13.own 0 rfl).len
      have H13 := SpB.matRows (As := [OwnA T_api_Params q 3 v3 [p, smallP a b c], RowsE T_sl_int w 1 slv (EltS 1 intv) W, BoxA a13 T_api_Params (v3 r)]) (H12.comp R13) hrs (fun _ => rfl) W.length (Nat.le_refl _)
      rw [List.take_length] at H13
      have eo : (⟨o.ptr, W.length, o.cap⟩ : Sl) = o := by obtain ⟨p, l2, c⟩ := o; simp at hol ⊢; omega
      rw [eo] at H13
      have Hs : Sp h h13 [OwnA T_api_Params q 3 v3 [p, smallP a b c], RowsE T_sl_int w 1 slv (EltS 1 intv) W, BoxA a13 T_api_Params (v3 r), RowsE T_sl_int o 1 slv (EltS 1 intv) W] := H13
      refine ⟨o, rfl, ?_⟩
      clear H13 H12 H11 H11' H10 R13 R12
      -- the ranks
      have ldp : ∀ {h' : Heap}, Sp h h' [OwnA T_api_Params q 3 v3 [p, smallP a b c], RowsE T_sl_int w 1 slv (EltS 1 intv) W, BoxA a13 T_api_Params (v3 r), RowsE T_sl_int o 1 slv (EltS 1 intv) W] → cellsAt h' a13 0 [.int .i64 r.1, .int .i64 r.2.1, .int .i64 r.2.2] := fun H => (H.box 2 rfl).cells0 _ rfl
      have hld : ∀ {h' : Heap}, Sp h h' [OwnA T_api_Params q 3 v3 [p, smallP a b c], RowsE T_sl_int w 1 slv (EltS 1 intv) W, BoxA a13 T_api_Params (v3 r), RowsE T_sl_int o 1 slv (EltS 1 intv) W] → Held.ok [(a13, (.int .i64 r.1)), (a13.add 1, (.int .i64 r.2.1)), (a13.add 2, (.int .i64 r.2.2))] h' := fun H => ⟨(H.box 2 rfl).cell0 rfl, (H.box 2 rfl).cell rfl, (H.box 2 rfl).cell rfl, trivial⟩
      have hld2 : ∀ {h' : Heap}, Sp h h' [OwnA T_api_Params q 3 v3 [p, smallP a b c], RowsE T_sl_int w 1 slv (EltS 1 intv) W, BoxA a13 T_api_Params (v3 r), RowsE T_sl_int o 1 slv (EltS 1 intv) W] → Held.ok [(a13, (.int .i64 r.1)), (a13.add 1, (.int .i64 r.2.1)), (a13.add 2, (.int .i64 r.2.2)), (a13, (.int .i64 r.1)), (a13.add 1, (.int .i64 r.2.1)), (a13.add 2, (.int .i64 r.2.2))] h' := fun H => ⟨(H.box 2 rfl).cell0 rfl, (H.box 2 rfl).cell rfl, (H.box 2 rfl).cell rfl, (H.box 2 rfl).cell0 rfl, (H.box 2 rfl).cell rfl, (H.box 2 rfl).cell rfl, trivial⟩
      have rank1 : ∀ (gg : Sl) (GG : List Int) (h' : Heap), Sp h h' [OwnA T_api_Params q 3 v3 [p, smallP a b c], RowsE T_sl_int w 1 slv (EltS 1 intv) W, BoxA a13 T_api_Params (v3 r), RowsE T_sl_int o 1 slv (EltS 1 intv) W] → Rd h' gg 1 intv GG → GG.length ≤ 8 → Meets Tryz.prog margin_Rank_id #[pmv r, .int .u32 s, .slice o.ptr o.len o.cap, .slice gg.ptr gg.len gg.cap] h' fun v h'' => v = .int .i64 (leftRk r s W GG) ∧ Sp h h'' [OwnA T_api_Params q 3 v3 [p, smallP a b c], RowsE T_sl_int w 1 slv (EltS 1 intv) W, BoxA a13 T_api_Params (v3 r), RowsE T_sl_int o 1 slv (EltS 1 intv) W] ∧ Pres (fun b => b < h'.size) h' h'' := fun gg GG h' H hgg hl =>
        (marginRank_spec r s o gg W GG h' (H.eRd 3 rfl (fun _ => rfl)) hgg (by omega) hWr (by omega)).mono fun v h'' ⟨e, R⟩ => ⟨e, H.up R.pres, R.pres⟩
      have rank2 : ∀ (gg : Sl) (GG : List Int) (h' : Heap), Sp h h' [OwnA T_api_Params q 3 v3 [p, smallP a b c], RowsE T_sl_int w 1 slv (EltS 1 intv) W, BoxA a13 T_api_Params (v3 r), RowsE T_sl_int o 1 slv (EltS 1 intv) W] → Rd h' gg 1 intv GG → GG.length ≤ 8 → Meets Tryz.prog wellspringref21_Rank_id #[pmv r, .int .u32 s, .slice w.ptr w.len w.cap, .slice gg.ptr gg.len gg.cap] h' fun v h'' => v = .int .i64 (leftRk r s W GG) ∧ Sp h h'' [OwnA T_api_Params q 3 v3 [p, smallP a b c], RowsE T_sl_int w 1 slv (EltS 1 intv) W, BoxA a13 T_api_Params (v3 r), RowsE T_sl_int o 1 slv (EltS 1 intv) W] ∧ Pres (fun b => b < h'.size) h' h'' := fun gg GG h' H hgg hl =>
        (refRank_spec' r s w gg W GG h' (H.eRd 1 rfl (fun _ => rfl)) hgg (by omega) hWr (by omega)).mono fun v h'' ⟨e, R⟩ => ⟨e, H.up R.pres, R.pres⟩
      have lit2 : ∀ (x y : Int) (h' : Heap) (K : Sl → Heap → Prop), Sp h h' [OwnA T_api_Params q 3 v3 [p, smallP a b c], RowsE T_sl_int w 1 slv (EltS 1 intv) W, BoxA a13 T_api_Params (v3 r), RowsE T_sl_int o 1 slv (EltS 1 intv) W] → (∀ z h'', Sp h h'' [OwnA T_api_Params q 3 v3 [p, smallP a b c], RowsE T_sl_int w 1 slv (EltS 1 intv) W, BoxA a13 T_api_Params (v3 r), RowsE T_sl_int o 1 slv (EltS 1 intv) W] → Rd h'' z 1 intv [x, y] → Pres (fun b => b < h'.size) h' h'' → K z h'') →
          RunsR Tryz.prog (Instr.buildSlice T_sl_int 2 #[(0, .int .i64 x), (1, .int .i64 y)]) (.one (.sc .slc)) h' K := fun x y h' K H hk =>
        (Sp.refl h').lit C_ok intv eInt rfl [x, y] rfl (show 2 * 1 ≤ 2 ^ 20 by decide) rfl fun z h'' R => hk z h'' (H.up R.pres) (R.seq 0 rfl (fun _ => rfl)) R.pres
      refine join_cut (fun _ h' => Sp h h' [OwnA T_api_Params q 3 v3 [p, smallP a b c], RowsE T_sl_int w 1 slv (EltS 1 intv) W, BoxA a13 T_api_Params (v3 r), RowsE T_sl_int o 1 slv (EltS 1 intv) W]) ?_ ?_
      · refine ⟨r, ldp Hs, r, ldp Hs, (rank1 g' G h13 Hs (Seq.up hgr Hs.pres) hGl).mono ?_⟩
        rintro v h14 ⟨rfl, H14, P14⟩
        refine ⟨_, rfl, hld H14, (rank2 g' G h14 H14 (Seq.up hgr H14.pres) hGl).mono ?_⟩
        rintro v h15 ⟨rfl, H15, P15⟩
        refine ⟨_, rfl, trivial, br_ne (fun e => absurd rfl e) fun _ => ?_⟩
        refine ⟨r, ldp H15, r, ldp H15, ⟨?_, ?_⟩⟩
        · refine lit2 k 0 h15 _ H15 fun z h16 H16 hz P16 => ⟨hld2 H16, ?_, ?_⟩
          · refine (rank1 z _ h16 H16 hz (by simp)).mono ?_
            rintro v h17 ⟨rfl, H17, P17⟩
            refine ⟨_, rfl, hld H17, ?_⟩
            refine lit2 k 0 h17 _ H17 fun z2 h18 H18 hz2 P18 => ⟨hld H18, ?_⟩
            refine (rank2 z2 _ h18 H18 hz2 (by simp)).mono ?_
            rintro v h19 ⟨rfl, H19, P19⟩
            exact ⟨_, rfl, trivial, br_ne (fun e => absurd rfl e) fun _ => H19⟩
          · refine lit2 k 0 h16 _ H16 fun z2 h18 H18 hz2 P18 => ⟨hld2 H18, ?_⟩
            refine (rank1 z _ h18 H18 (Seq.up hz P18) (by simp)).mono ?_
            rintro v h17 ⟨rfl, H17, P17⟩
            refine ⟨_, rfl, hld H17, ?_⟩
            refine (rank2 z2 _ h17 H17 (Seq.up hz2 P17) (by simp)).mono ?_
            rintro v h19 ⟨rfl, H19, P19⟩
            exact ⟨_, rfl, trivial, br_ne (fun e => absurd rfl e) fun _ => H19⟩
        · refine lit2 k 0 h15 _ H15 fun z h16 H16 hz P16 => ⟨hld2 H16, ?_⟩
          refine lit2 k 0 h16 _ H16 fun z2 h18 H18 hz2 P18 => ⟨hld2 H18, ?_⟩
          refine (rank1 z2 _ h18 H18 hz2 (by simp)).mono ?_
          rintro v h17 ⟨rfl, H17, P17⟩
          refine ⟨_, rfl, hld H17, ?_⟩
          refine (rank2 z _ h17 H17 (Seq.up hz (up P18 P17)) (by simp)).mono ?_
          rintro v h19 ⟨rfl, H19, P19⟩
          exact ⟨_, rfl, trivial, br_ne (fun e => absurd rfl e) fun _ => H19⟩
      · rintro _ h20 H20
        refine (Sp.refl h20).lit C_ok intv eInt rfl [t, k] rfl (show 2 * 1 ≤ 2 ^ 20 by decide) rfl fun z h21 R21 => ?_
        have H21 := H20.comp R21
        have hzl := (R21.own 0 rfl).len
        refine loop_inv (fun j : Nat => (j : Int)) (fun j h' => j ≤ 2 ∧ Sp h h' [OwnA T_api_Params q 3 v3 [p, smallP a b c], RowsE T_sl_int w 1 slv (EltS 1 intv) W, BoxA a13 T_api_Params (v3 r), RowsE T_sl_int o 1 slv (EltS 1 intv) W, OwnA T_int z 1 intv [t, k]]) (fun j => 2 - j) 0 rfl ⟨by omega, H21⟩ ?_
        rintro j h22 ⟨hj, H22⟩
        have hzl2 : z.len = 2 := hzl
        refine br_dec (fun e2 => ?_) (fun e2 => ?_)
        · have hj' : j < 2 := by omega
          refine (H22.seq 4 rfl (fun _ => rfl)).get1 j rfl (by simpa using hj') _ rfl ?_
          generalize [t, k][j]'(by simpa using hj') = T
          refine ⟨r, (H22.box 2 rfl).cells0 _ rfl, (marginWeak_spec r s o W T h22 (H22.eRd 3 rfl (fun _ => rfl)) (by omega) hWr (by omega)).mono ?_⟩
          rintro v h23 ⟨y1, rfl, R23⟩
          have H23 := H22.up R23.pres
          refine ⟨(y1, _, _), rfl, r, (H23.box 2 rfl).cells0 _ rfl, (refWeak_spec r s w W T h23 (H23.eRd 1 rfl (fun _ => rfl)) (by omega) hWr).mono ?_⟩
          rintro v h24 ⟨y2, rfl, R24⟩
          have H24 := H23.up R24.pres
          refine ⟨(y2, _, _), rfl, ?_⟩
          refine br_ne (fun e => absurd rfl e) fun _ => ?_
          refine br_not (fun e => by simp at e) fun _ => ?_
          have hlw : (weakR r s W T).1.length ≤ 2 ^ 40 := by
            unfold weakR
            split
            · split
              · rename_i hc
                split
                · simp
                · cases hw : weakI r s W T.toNat with
                  | none => simp
                  | some g =>
                    have : g ∈ setsI W.length T.toNat := List.mem_of_find?_eq_some hw
                    obtain ⟨y, hy, rfl⟩ := List.mem_map.1 this
                    have := (mem_sets hy).1
                    show (ints y).length ≤ _
                    rw [ints_len, this]; omega
              · simp
            · simp
          refine (same_int_spec y1 y2 _ _ h24 (Seq.up (R23.eAt 0 rfl) R24.pres) (R24.eAt 0 rfl) hlw).mono ?_
          rintro v h25 ⟨rfl, rfl⟩
          refine ⟨_, rfl, br_not (fun e => by simp at e) fun _ => ?_⟩
          exact ⟨j + 1, by rw [Go.Vc.wrap_small _ (by omega) (by omega)]; rfl, ⟨by omega, H24⟩, by omega⟩
        · refine (rowsE_int_spec o w W W h22 (H22.eRd 3 rfl (fun _ => rfl)) (H22.eRd 1 rfl (fun _ => rfl)) (by omega) (fun l hl => by have := hWr l hl; omega)).mono ?_
          rintro v h23 ⟨rfl, rfl⟩
          refine ⟨_, rfl, br_not (fun e => by simp at e) fun _ => ?_⟩
          refine ⟨i + 1, by rw [Go.Vc.wrap_small _ (by omega) (by omega)]; rfl, ⟨by omega, H22.take 0 fun i A hi => ?_⟩, by omega⟩
          match i with
          | 0 => exact hi
          | 1 => exact hi
          | i + 2 => simp at hi
  · rintro _ h26 P26
    refine (mwakes_spec h26).mono ?_
    rintro v h27 ⟨rfl, R27⟩
    exact ⟨_, rfl, rfl, up P26 R27.pres⟩
end Go.Proofs.YtmadbodaleaaeaaGreat
