/- Part of the proofs that wellspringlaw27's laws answer true whatever the input reads, and leave it as it was; no condition. -/
import Derived.Test.YtmadbodaleaaeaaKA
import Derived.Test.YtmadbodaleaaeaaPlA
set_option linter.unusedVariables false
set_option linter.unusedSimpArgs false
namespace Go.Proofs.Ytmadbodaleaaeaa
open Go Go.Vc Go.Proofs Wl
set_option maxRecDepth 100000
theorem ch_up (n k : Nat) : ch n k ≤ ch (n + 1) k := by
  cases k with
  | zero => rw [ch_zero, ch_zero]; exact Nat.le_refl _
  | succ k => rw [ch]; omega
theorem ch_big : ∀ d, 4096 < ch (30 + d) 4
  | 0 => by decide +kernel
  | d + 1 => Nat.lt_of_lt_of_le (ch_big d) (ch_up _ _)
theorem leftI_nils (m : Nat) (gone : List Int) : ∀ k, leftI (List.replicate m []) gone k = []
  | 0 => rfl
  | k + 1 => by
    rw [leftI, leftI_nils m gone k, List.nil_append]
    split
    · rfl
    · rw [List.getD_eq_getElem?_getD, List.getElem?_replicate]; split <;> rfl
set_option maxHeartbeats 1000000 in
theorem merrors_spec (a b c seed n : Int) (h : Heap) :
    Meets Try.prog wellspringlaw27_MarginErrors_id #[.int .i64 a, .int .i64 b, .int .i64 c, .int .u64 seed, .int .i64 n] h fun v h' => v = .bool true ∧ Pres (fun b => b < h.size) h h' := by
  refine wellspringlaw27_MarginErrors_run a b c seed n ?_
  unfold wellspringlaw27_MarginErrors_m
  refine (small_spec a b c h).mono ?_
  rintro v h1 ⟨rfl, H1⟩
  obtain ⟨p, hp⟩ : ∃ p, p = smallP a b c := ⟨_, rfl⟩
  have hmay : mayP p = true := by rw [hp]; exact smallP_may a b c
  rw [← hp]
  refine ⟨p, rfl, ?_⟩
  refine H1.alloc C_ok rfl fun x h2 H2 => ?_
  refine H2.storeAll C_ok 0 rfl rfl [.int .i64 p.1, .int .i64 p.2.1, .int .i64 p.2.2] rfl rfl rfl rfl fun h3 H3 => ?_
  refine (within_spec n 5 h3 (by decide) (by decide)).mono ?_
  rintro v h4 ⟨rfl, rfl⟩
  refine ⟨_, rfl, ?_⟩
  dsimp only
  obtain ⟨m, hm⟩ : ∃ m : Nat, 60 + n % 5 = m := ⟨(60 + n % 5).toNat, by omega⟩
  rw [hm, wrap_small _ (by omega) (by omega)]
  have hm2 : 60 ≤ m ∧ m ≤ 64 := by omega
  refine H3.make C_ok slv eSlInt (by decide) ⟨none, 0, 0⟩ rfl rfl m m rfl rfl (Nat.le_refl _) (by omega) fun o h5 hol hoc H5 => ?_
  have many : ∀ {h' : Heap}, Pres (fun b => b < h5.size) h5 h' → RdE (EltL (EltS 1 intv) 1 slv) h' o (List.replicate m []) := fun hp => RdE.up (EltL.ofNils (H5.seq 1 rfl (fun _ => rfl))) hp
  have hlen : (List.replicate m ([] : List Int)).length = m := by simp
  have hrows : ∀ l ∈ List.replicate m ([] : List Int), l.length ≤ 2 ^ 20 := fun l hl => by rw [(List.mem_replicate.1 hl).2]; simp
  refine ⟨p, (H5.box 0 rfl).cells0 _ rfl, (marginWeak_spec p _ o _ 4 h5 (many (Pres.refl _ _)) (by omega) hrows (by decide)).mono ?_⟩
  rintro v h6 ⟨r6, rfl, R6⟩
  have w1 : weakR p (IntKind.wrap .u32 seed) (List.replicate m []) 4 = ([], false, 13) := by
    unfold weakR
    rw [if_pos hmay, hlen, if_pos ⟨by decide, by omega, by omega⟩, if_pos]
    unfold countI
    rw [if_pos ⟨by omega, by omega, by decide, by omega⟩]
    have := ch_big (m - 30)
    rw [show 30 + (m - 30) = m by omega] at this
    have e4 : (4 : Int).toNat = 4 := rfl
    rw [Int.toNat_natCast, e4]; omega
  rw [w1]
  refine ⟨(r6, false, 13), rfl, ?_⟩
  have H6 := H5.up R6.pres
  refine (marginWeak_spec (0, 0, 0) _ o _ 4 h6 (many R6.pres) (by omega) hrows (by decide)).mono ?_
  rintro v h7 ⟨r7, rfl, R7⟩
  have w2 : weakR (0, 0, 0) (IntKind.wrap .u32 seed) (List.replicate m []) 4 = ([], false, 1) := by unfold weakR; rw [if_neg (by decide)]
  rw [w2]
  refine ⟨(r7, false, 1), rfl, ?_⟩
  have H7 := H6.up R7.pres
  have P7 := up R6.pres R7.pres
  refine ⟨p, (H7.box 0 rfl).cells0 _ rfl, (marginWeak_spec p _ o _ 100 h7 (many P7) (by omega) hrows (by decide)).mono ?_⟩
  rintro v h8 ⟨r8, rfl, R8⟩
  have w3 : weakR p (IntKind.wrap .u32 seed) (List.replicate m []) 100 = ([], false, 1) := by
    unfold weakR; rw [if_pos hmay, hlen, if_neg (by omega)]
  rw [w3]
  refine ⟨(r8, false, 1), rfl, ?_⟩
  have H8 := H7.up R8.pres
  have P8 := up P7 R8.pres
  refine join_cut (fun s h' => s = 1 ∧ Sp h h' [BoxA x T_api_Params [.int .i64 p.1, .int .i64 p.2.1, .int .i64 p.2.2], OwnA T_sl_int o 1 slv (List.replicate m ⟨none, 0, 0⟩)] ∧ Pres (fun b => b < h5.size) h5 h') ?_ ?_
  · refine ⟨p, (H8.box 0 rfl).cells0 _ rfl, ?_⟩
    refine (Sp.refl h8).make C_ok slv eSlInt (by decide) ⟨none, 0, 0⟩ rfl rfl 65 65 rfl rfl (Nat.le_refl _) (by decide) fun q h9 hql hqc R9 => ?_
    have H9 := H8.comp R9
    have hb9 := H9.box 0 rfl
    refine ⟨⟨hb9.cell0 rfl, hb9.cell rfl, hb9.cell rfl, trivial⟩, ?_⟩
    have m9 : RdE (EltL (EltS 1 intv) 1 slv) h9 q (List.replicate 65 []) := EltL.ofNils (H9.seq 2 rfl (fun _ => rfl))
    refine (marginWeak_spec p _ q _ 1 h9 m9 (by simp) (fun l hl => by rw [(List.mem_replicate.1 hl).2]; simp) (by decide)).mono ?_
    rintro v h10 ⟨r10, rfl, R10⟩
    have w4 : weakR p (IntKind.wrap .u32 seed) (List.replicate 65 []) 1 = ([], false, 1) := by
      unfold weakR; rw [if_pos hmay, List.length_replicate, if_neg (by decide)]
    rw [w4]
    refine ⟨(r10, false, 1), rfl, trivial, rfl, (H9.up R10.pres).take 0 fun i A hi => ?_, ?_⟩
    · match i with
      | 0 => exact hi
      | 1 => exact hi
      | i + 2 => simp at hi
    · exact up P8 (up R9.pres R10.pres)
  · rintro s h11 ⟨rfl, H11, P11⟩
    refine br_t rfl (br_t rfl (br_t rfl (br_t rfl ?_)))
    have hb := H11.box 0 rfl
    refine ⟨p, hb.cells0 _ rfl, p.2.1, hb.cell rfl, (marginRank_spec p _ o ⟨none, 0, 0⟩ _ [] h11 (many P11) (rd_nil _ _) (by omega) hrows (by simp)).mono ?_⟩
    rintro v h12 ⟨rfl, R12⟩
    have H12 := H11.up R12.pres
    have hb12 := H12.box 0 rfl
    have hrk : (leftRk p (IntKind.wrap .u32 seed) (List.replicate m []) [] : Int) = p.2.1 := by
      unfold leftRk; rw [leftI_nils, rankI_nil _ hmay]
    refine ⟨_, rfl, ⟨hb12.cell rfl, trivial⟩, ?_⟩
    rw [hrk]
    refine br_eq (fun _ => ?_) (fun e => absurd rfl e)
    refine (mwakes_spec h12).mono ?_
    rintro v h13 ⟨rfl, R13⟩
    have H13 := H12.up R13.pres
    exact ⟨_, rfl, ⟨(H13.box 0 rfl).cell rfl, trivial⟩, rfl, H13.pres⟩
/-- The first that is bad, and those ahead of it. -/
theorem find_first {α : Type} {f : α → Bool} {l : List α} {g : α} (h : l.find? f = some g) : f g = true ∧ g ∈ l ∧ ∀ k (hk : k < l.length), (∀ j, (hj : j < k) → l[j]'(by omega) ≠ g) → f l[k] = true → l[k] = g := by
  refine ⟨List.find?_some h, List.mem_of_find?_eq_some h, fun k hk hno hf => ?_⟩
  rw [List.find?_eq_some_iff_getElem] at h
  obtain ⟨_, i, hi, he, hb⟩ := h
  rcases Nat.lt_trichotomy i k with h1 | h1 | h1
  · exact absurd he (hno i h1)
  · subst h1; exact he
  · have := hb k h1; rw [hf] at this; simp at this
def wkOut (o : Option (List Int)) : List Int × Bool × Int := match o with | some g => (g, true, 0) | none => ([], false, 0)
theorem weakR_ok {p : Pm} (hp : mayP p = true) (seed : Int) (W : List (List Int)) {t : Nat} (ht : t ≤ W.length) (hw : W.length ≤ 5) : weakR p seed W t = wkOut (weakI p seed W t) := by
  have hc : ∀ n, n ≤ 5 → ∀ t, t ≤ n → ch n t ≤ 4096 := by decide
  have hcn : ¬ countI (W.length : Int) (t : Int) > 4096 := by
    have := hc W.length hw t ht
    unfold countI
    rw [if_pos ⟨by omega, by omega, by omega, by omega⟩, Int.toNat_natCast, Int.toNat_natCast]
    omega
  unfold weakR
  rw [if_pos hp, if_pos ⟨by omega, by omega, by omega⟩, if_neg hcn, Int.toNat_natCast]
  unfold wkOut
  cases weakI p seed W t <;> rfl
set_option maxHeartbeats 4000000 in
theorem mfirst_spec (a b c seed : Int) (l : Sl) (ml : List Int) (n t : Int) (h : Heap) (hl : Rd h l 1 intv ml) :
    Meets Try.prog wellspringlaw27_MarginFirst_id #[.int .i64 a, .int .i64 b, .int .i64 c, .int .u64 seed, .slice l.ptr l.len l.cap, .int .i64 n, .int .i64 t] h fun v h' => v = .bool true ∧ Pres (fun b => b < h.size) h h' := by
  refine wellspringlaw27_MarginFirst_run a b c seed l n t ?_
  unfold wellspringlaw27_MarginFirst_m
  refine (small_spec a b c h).mono ?_
  rintro v h1 ⟨rfl, H1⟩
  obtain ⟨p, hp⟩ : ∃ p, p = smallP a b c := ⟨_, rfl⟩
  have hmay : mayP p = true := by rw [hp]; exact smallP_may a b c
  rw [← hp]
  refine ⟨p, rfl, ?_⟩
  refine H1.alloc C_ok rfl fun x h2 H2 => ?_
  refine H2.storeAll C_ok 0 rfl rfl [.int .i64 p.1, .int .i64 p.2.1, .int .i64 p.2.2] rfl rfl rfl rfl fun h3 H3 => ?_
  refine ⟨p, (H3.box 0 rfl).cells0 _ rfl, (seed_spec p seed h3).mono ?_⟩
  rintro v h4 ⟨s, rfl, R4⟩
  have H4 := H3.up R4.pres
  refine ⟨s, rfl, (within_spec n 5 h4 (by decide) (by decide)).mono ?_⟩
  rintro v h5 ⟨rfl, rfl⟩
  refine ⟨_, rfl, ?_⟩
  dsimp only
  obtain ⟨m, hm⟩ : ∃ m : Nat, 1 + n % 5 = m := ⟨(1 + n % 5).toNat, by omega⟩
  rw [hm, wrap_small (m : Int) (by omega) (by omega), wrap_small ((m : Int) + 1) (by omega) (by omega)]
  have hm2 : 1 ≤ m ∧ m ≤ 5 := by omega
  refine (within_spec t _ h5 (by omega) (by omega)).mono ?_
  rintro v h6 ⟨rfl, rfl⟩
  obtain ⟨T, hT⟩ : ∃ T : Nat, t % ((m : Int) + 1) = T := ⟨(t % ((m : Int) + 1)).toNat, by have := Int.emod_nonneg t (show (m : Int) + 1 ≠ 0 by omega); omega⟩
  have hT2 : T ≤ m := by have := Int.emod_lt_of_pos t (show (0 : Int) < (m : Int) + 1 by omega); omega
  rw [hT]
  refine ⟨_, rfl, ?_⟩
  dsimp only
  refine (where_spec l ml m h6 (Seq.up hl H4.pres) (by omega) (by omega)).mono ?_
  rintro v h7 ⟨w, rfl, R7⟩
  have H7 := H4.comp R7
  obtain ⟨W, hW⟩ : ∃ W, W = whereW ml m := ⟨_, rfl⟩
  have hWl : W.length = m := by rw [hW]; exact where_len _ _ _
  have hWr : ∀ l ∈ W, l.length ≤ 2 ^ 20 := fun l hl => by
    rw [hW] at hl
    have h8 := where_row _ _ _ l hl
    have : (idsOf ml 40).length ≤ 40 := by simp [idsOf]; omega
    omega
  rw [← hW] at H7
  have H7' : Sp h h7 [BoxA x T_api_Params [.int .i64 p.1, .int .i64 p.2.1, .int .i64 p.2.2], RowsE T_sl_int w 1 slv (EltS 1 intv) W] := H7
  refine ⟨w, rfl, p, (H7'.box 0 rfl).cells0 _ rfl, (marginWeak_spec p s w W T h7 (H7'.eRd 1 rfl (fun _ => rfl)) (by omega) hWr (by omega)).mono ?_⟩
  rintro v h8 ⟨r8, rfl, R8⟩
  rw [weakR_ok hmay s W (show T ≤ W.length by omega) (by omega)] at R8 ⊢
  have H8 := H7'.comp R8
  refine ⟨(r8, _, _), rfl, ?_⟩
  refine (all_spec (m : Int) T h8 (by omega) (by omega)).mono ?_
  intro v h9 hA
  unfold AllR at hA
  have hcn : ¬ countI (m : Int) T > 4096 := by
    have hc : ∀ n, n ≤ 5 → ∀ t, t ≤ n → ch n t ≤ 4096 := by decide
    have := hc m (by omega) T hT2
    unfold countI
    rw [if_pos ⟨by omega, by omega, by omega, by omega⟩, Int.toNat_natCast, Int.toNat_natCast]
    omega
  rw [if_pos ⟨by omega, by omega, by omega, by omega⟩, if_neg hcn, Int.toNat_natCast, Int.toNat_natCast] at hA
  obtain ⟨r9, rfl, R9⟩ := hA
  refine ⟨(r9, 0), rfl, ?_⟩
  obtain ⟨L, hL⟩ : ∃ L, L = setsI m T := ⟨_, rfl⟩
  rw [← hL] at R9
  have H9 := H8.comp R9
  let bad : List Int → Bool := fun g => decide ((leftRk p s W g : Int) ≠ colsP p)
  have wI : weakI p s W T = L.find? bad := by unfold weakI; rw [hL, hWl]
  rw [wI] at H9 ⊢
  have e2 : (wkOut (L.find? bad)).2.2 = 0 := by cases L.find? bad <;> rfl
  have e1 : (wkOut (L.find? bad)).2.1 = (L.find? bad).isSome := by cases L.find? bad <;> rfl
  have e0 : (wkOut (L.find? bad)).1 = (L.find? bad).getD [] := by cases L.find? bad <;> rfl
  rw [e0] at H9
  rw [e1, e2]
  dsimp only
  have H9' : Sp h h9 [BoxA x T_api_Params [.int .i64 p.1, .int .i64 p.2.1, .int .i64 p.2.2], RowsE T_sl_int w 1 slv (EltS 1 intv) W, EA (EltS 1 intv) r8 ((L.find? bad).getD []), RowsE T_sl_int r9 1 slv (EltS 1 intv) L] := H9
  have hLe : ∀ g ∈ L, g.length ≤ 5 := fun g hg => by
    rw [hL] at hg
    obtain ⟨y, hy, rfl⟩ := List.mem_map.1 hg
    rw [ints_len, (mem_sets hy).1]; omega
  have hrl := (H9'.eLen 3 rfl).1
  have hwl := (H9'.eLen 1 rfl).1
  have hLl : L.length ≤ 4096 := by
    rw [hL, setsI, List.length_map, len_sets _ _ 0 (by omega), Nat.sub_zero]
    have hc : ∀ n, n ≤ 5 → ∀ t, t ≤ n → ch n t ≤ 4096 := by decide
    exact hc m (by omega) T hT2
  refine join_in (br_ne (fun e => absurd rfl e) fun _ => br_ne (fun e => absurd rfl e) fun _ => ?_)
  -- none ahead of it is told
  refine loop_inv (fun k : Nat => (k : Int)) (fun k h' => k ≤ L.length ∧ (∀ j, (hj : j < k) → (hjl : j < L.length) → bad L[j] = false) ∧ Sp h h' [BoxA x T_api_Params [.int .i64 p.1, .int .i64 p.2.1, .int .i64 p.2.2], RowsE T_sl_int w 1 slv (EltS 1 intv) W, EA (EltS 1 intv) r8 ((L.find? bad).getD []), RowsE T_sl_int r9 1 slv (EltS 1 intv) L]) (fun k => L.length - k) 0 rfl ⟨by omega, fun j hj => by omega, H9'⟩ ?_
  rintro k h10 ⟨hk, hno, H10⟩
  refine br_dec (fun e => ?_) (fun e => ?_)
  · have hk' : k < L.length := by omega
    refine EltL.getC (H10.eRd 3 rfl (fun _ => rfl)) k rfl hk' fun ad y had hcell hy => ?_
    have hyl := hLe _ (List.getElem_mem hk')
    -- the IDs of the others
    refine loop_inv (fun z : Sl × Nat => (z.1, (z.2 : Int))) (fun z h' => z.2 ≤ W.length ∧ Sp h10 h' [OwnA T_int z.1 1 intv (leftI W L[k] z.2)]) (fun z => W.length - z.2) (⟨none, 0, 0⟩, 0) rfl ⟨by simp, (Sp.refl h10).nil T_int 1 intv⟩ ?_
    rintro ⟨o, i⟩ h11 ⟨hi, H11⟩
    dsimp only at *
    have hll : (leftI W L[k] i).length ≤ i * 2 ^ 20 := by
      have key : ∀ i, i ≤ W.length → (leftI W L[k] i).length ≤ i * 2 ^ 20 := by
        intro i
        induction i with
        | zero => intro _; simp [leftI]
        | succ i ih =>
          intro hk
          have h1 := ih (by omega)
          rw [leftI, List.length_append]
          have h2 : (if (i : Int) ∈ L[k] then [] else W.getD i []).length ≤ 2 ^ 20 := by
            split
            · simp
            · rw [List.getD_eq_getElem?_getD, List.getElem?_eq_getElem (by omega)]; exact hWr _ (List.getElem_mem _)
          omega
      exact key i hi
    refine br_dec (fun e3 => ?_) (fun e3 => ?_)
    · have hi' : i < W.length := by omega
      refine (member_spec y L[k] i h11 (Seq.up hy H11.pres) (by omega)).mono ?_
      rintro v h12 ⟨rfl, rfl⟩
      have hgk : W.getD i [] = W[i] := by rw [List.getD_eq_getElem?_getD, List.getElem?_eq_getElem hi']; rfl
      refine ⟨_, rfl, br_not (fun hout => ?_) (fun hin => ?_)⟩
      · have hout := of_decide_eq_false hout
        refine EltL.getS (RdE.up (H10.eRd 1 rfl (fun _ => rfl)) H11.pres) i rfl hi' fun q hq => ?_
        have h5 := hWr _ (List.getElem_mem hi')
        refine H11.append C_ok 0 rfl eInt ⟨_, _, rfl, rfl⟩ rfl (by decide) (fun _ => rfl) hq one_int (by
          have : i * 2 ^ 20 ≤ 5 * 2 ^ 20 := Nat.mul_le_mul_right _ (by omega)
          omega) fun o' h13 H13 => ?_
        refine ⟨(o', i + 1), by dsimp only; rw [wrap_small _ (by omega) (by omega)]; rfl, ⟨by dsimp only; omega, ?_⟩, by dsimp only; omega⟩
        dsimp only
        rw [leftI, if_neg hout, hgk]; exact H13
      · have hin := of_decide_eq_true hin
        refine ⟨(o, i + 1), by dsimp only; rw [wrap_small _ (by omega) (by omega)]; rfl, ⟨by dsimp only; omega, ?_⟩, by dsimp only; omega⟩
        dsimp only
        rw [leftI, if_pos hin, List.append_nil]; exact H11
    · have hie : i = W.length := by omega
      subst hie
      have H12 := H10.comp H11
      refine ⟨p, (H12.box 0 rfl).cells0 _ rfl, (full_spec p s o _ h11 (H11.seq 0 rfl (fun _ => rfl)) (by
        have : W.length * 2 ^ 20 ≤ 5 * 2 ^ 20 := Nat.mul_le_mul_right _ (by omega)
        omega)).mono ?_⟩
      rintro v h13 ⟨rfl, R13⟩
      have H13 : Sp h h13 [BoxA x T_api_Params [.int .i64 p.1, .int .i64 p.2.1, .int .i64 p.2.2], RowsE T_sl_int w 1 slv (EltS 1 intv) W, EA (EltS 1 intv) r8 ((L.find? bad).getD []), RowsE T_sl_int r9 1 slv (EltS 1 intv) L] := H10.up (up H11.pres R13.pres)
      have hfull : fullI p s (leftI W L[k] W.length) = !bad L[k] := by
        show _ = !decide ((leftRk p s W L[k] : Int) ≠ colsP p)
        unfold fullI leftRk
        rw [hmay, Bool.true_and]
        by_cases hh : (rankI p s (leftI W L[k] W.length) : Int) = colsP p
        · simp [hh]
        · simp [hh]
      refine ⟨_, rfl, ?_⟩
      rw [hfull]
      -- behind the look at the set itself
      refine join_cut (fun _ h' => bad L[k] = false ∧ Sp h h' [BoxA x T_api_Params [.int .i64 p.1, .int .i64 p.2.1, .int .i64 p.2.2], RowsE T_sl_int w 1 slv (EltS 1 intv) W, EA (EltS 1 intv) r8 ((L.find? bad).getD []), RowsE T_sl_int r9 1 slv (EltS 1 intv) L]) ?_ ?_
      · refine br_b (fun hsome => ?_) (fun hnone => ?_)
        · obtain ⟨g, hg⟩ := Option.isSome_iff_exists.1 hsome
          obtain ⟨f1, f2, f3⟩ := find_first hg
          have hr8 := H13.eAt 2 rfl
          rw [hg] at hr8
          refine (same_int_spec y r8 L[k] g h13 (Seq.up hy (up H11.pres R13.pres)) hr8 (by omega)).mono ?_
          rintro v h14 ⟨rfl, rfl⟩
          refine ⟨_, rfl, br_dec (fun e5 => ?_) (fun e5 => ?_)⟩
          · rw [e5, f1]
            refine br_t rfl ?_
            refine (mwakes_spec h14).mono ?_
            rintro v h15 ⟨rfl, R15⟩
            exact ⟨_, rfl, rfl, (H13.up R15.pres).pres⟩
          · refine ⟨?_, H13⟩
            cases hb : bad L[k] with
            | false => rfl
            | true =>
              exact absurd (f3 k hk' (fun j hj he => by have := hno j hj (by omega); rw [he, f1] at this; cases this) hb) e5
        · refine ⟨?_, H13⟩
          have hn : L.find? bad = none := by simpa using hnone
          rw [List.find?_eq_none] at hn
          simpa using hn _ (List.getElem_mem hk')
      · rintro _ h16 ⟨hb, H16⟩
        rw [hb]
        refine br_f rfl ?_
        refine ⟨k + 1, by rw [wrap_small _ (by omega) (by omega)]; rfl, ⟨by omega, fun j hj hjl => ?_, H16⟩, by omega⟩
        rcases Nat.lt_succ_iff_lt_or_eq.1 hj with h3 | rfl
        · exact hno j h3 hjl
        · exact hb
  · have hn : L.find? bad = none := by
      rw [List.find?_eq_none]
      intro g hg
      obtain ⟨j, hj, rfl⟩ := List.getElem_of_mem hg
      rw [hno j (by omega) hj]; simp
    have hr8 := H10.eAt 2 rfl
    rw [hn] at hr8 ⊢
    have h0 : r8.len = 0 := Seq.len hr8
    refine br_t rfl (br_eq (fun _ => ?_) (fun e5 => absurd (by rw [h0]; rfl) e5))
    refine (mwakes_spec h10).mono ?_
    rintro v h15 ⟨rfl, R15⟩
    exact ⟨_, rfl, rfl, (H10.up R15.pres).pres⟩
end Go.Proofs.Ytmadbodaleaaeaa

namespace Go.Proofs.Ytmadbodaleaaeaa
open Go Go.Vc Go.Proofs Wl
set_option maxRecDepth 100000
/-! ### More away, more IDs -/
theorem leftI_mem (W : List (List Int)) (gone : List Int) (x : Int) : ∀ k, x ∈ leftI W gone k ↔ ∃ i, i < k ∧ (i : Int) ∉ gone ∧ x ∈ W.getD i []
  | 0 => by simp [leftI]
  | k + 1 => by
    rw [leftI, List.mem_append, leftI_mem W gone x k]
    constructor
    · rintro (⟨i, h1, h2, h3⟩ | h)
      · exact ⟨i, by omega, h2, h3⟩
      · by_cases hk : (k : Int) ∈ gone
        · rw [if_pos hk] at h; cases h
        · rw [if_neg hk] at h; exact ⟨k, by omega, hk, h⟩
    · rintro ⟨i, h1, h2, h3⟩
      by_cases hik : i = k
      · subst hik; exact .inr (by rw [if_neg h2]; exact h3)
      · exact .inl ⟨i, by omega, h2, h3⟩
theorem rankI_sub (p : Pm) (seed : Int) {a b : List Int} (h : ∀ x ∈ a, x ∈ b) : rankI p seed a ≤ rankI p seed b := by
  unfold rankI
  refine rank_mono (matI_even p seed a) (matI_even p seed b) fun r hr => ?_
  unfold matI at hr ⊢
  split at hr
  · rename_i hp
    rw [if_pos hp]
    rcases List.mem_append.1 hr with hr | hr
    · exact List.mem_append_left _ hr
    · obtain ⟨i, hi, rfl⟩ := List.mem_map.1 hr
      rw [List.mem_filter] at hi
      exact List.mem_append_right _ (List.mem_map.2 ⟨i, List.mem_filter.2 ⟨h i hi.1, hi.2⟩, rfl⟩)
  · cases hr
theorem leftRk_le {p : Pm} {seed : Int} {W V : List (List Int)} {g g' : List Int} (hl : W.length ≤ V.length) (hg : ∀ x ∈ g', x ∈ g) (hW : ∀ i x, x ∈ W.getD i [] → x ∈ V.getD i []) : leftRk p seed W g ≤ leftRk p seed V g' := by
  unfold leftRk
  refine rankI_sub p seed fun x hx => ?_
  rw [leftI_mem] at hx ⊢
  obtain ⟨i, h1, h2, h3⟩ := hx
  exact ⟨i, by omega, fun hh => h2 (hg _ hh), hW i x h3⟩
/-- A set of fewer is part of one of more. -/
theorem set_grow {n : Nat} : ∀ {t k : Nat}, k ≤ t → t ≤ n → ∀ g ∈ setsF k 0 n, ∃ g' ∈ setsF t 0 n, ∀ x ∈ g, x ∈ g' := by
  intro t k hkt htn g hg
  obtain ⟨h1, h2, h3⟩ := mem_sets hg
  -- by how many
  obtain ⟨d, rfl⟩ : ∃ d, t = k + d := ⟨t - k, by omega⟩
  induction d with
  | zero => exact ⟨g, hg, fun _ h => h⟩
  | succ d ih =>
    obtain ⟨g1, hg1, hs1⟩ := ih (by omega) (by omega)
    obtain ⟨a1, a2, a3⟩ := mem_sets hg1
    -- one that is not in it
    have hex : ∃ x, x < n ∧ x ∉ g1 := by
      by_cases hall : ∀ x, x < n → x ∈ g1
      · exfalso
        have := nodup_len (l := List.range n) (m := g1) List.nodup_range fun x hx => hall x (List.mem_range.1 hx)
        simp at this; omega
      · simp only [Classical.not_forall] at hall
        obtain ⟨x, hx, hx2⟩ := hall
        exact ⟨x, hx, hx2⟩
    obtain ⟨x, hx, hxg⟩ := hex
    refine ⟨(List.range n).filter fun y => decide (y = x) || decide (y ∈ g1), sets_mem ?_ (fun y hy => ?_) ?_, fun y hy => ?_⟩
    · have hn1 : g1.Nodup := a3.imp fun h => Nat.ne_of_lt h
      have e1 : ((List.range n).filter fun y => decide (y = x) || decide (y ∈ g1)).length ≤ (x :: g1).length := nodup_len (List.nodup_range.filter _) fun y hy => by
        have := (List.mem_filter.1 hy).2
        simpa using this
      have e2 : (x :: g1).length ≤ ((List.range n).filter fun y => decide (y = x) || decide (y ∈ g1)).length := nodup_len (List.nodup_cons.2 ⟨hxg, hn1⟩) fun y hy => by
        rw [List.mem_filter]
        rcases List.mem_cons.1 hy with rfl | hy
        · exact ⟨List.mem_range.2 hx, by simp⟩
        · exact ⟨List.mem_range.2 (a2 y hy).2, by simp [hy]⟩
      simp only [List.length_cons] at e1 e2; omega
    · exact ⟨by omega, List.mem_range.1 (List.mem_filter.1 hy).1⟩
    · exact (List.pairwise_lt_range).filter _
    · rw [List.mem_filter]
      have hy1 := hs1 y hy
      exact ⟨List.mem_range.2 (a2 y hy1).2, by simp [hy1]⟩
/-- Fewer away: nothing is weak, either. -/
theorem weak_less {p : Pm} {seed : Int} {W : List (List Int)} {t k : Nat} (hk : k ≤ t) (ht : t ≤ W.length) (h : weakI p seed W t = none) : weakI p seed W k = none := by
  unfold weakI at h ⊢
  rw [List.find?_eq_none] at h ⊢
  intro g hg hb
  obtain ⟨y, hy, rfl⟩ := List.mem_map.1 hg
  obtain ⟨y', hy', hs⟩ := set_grow hk ht y hy
  have h1 := h (ints y') (List.mem_map.2 ⟨y', hy', rfl⟩)
  have h1 : (leftRk p seed W (ints y') : Int) = colsP p := by simpa using h1
  have h2 := leftRk_le (p := p) (seed := seed) (W := W) (V := W) (g := ints y') (g' := ints y) (Nat.le_refl _) (fun x hx => by
    obtain ⟨z, hz, rfl⟩ := List.mem_map.1 hx
    exact List.mem_map.2 ⟨z, hs z hz, rfl⟩) (fun _ _ h => h)
  have h3 := rankI_le p seed (leftI W (ints y) W.length)
  have h4 : (leftRk p seed W (ints y) : Int) ≠ colsP p := of_decide_eq_true hb
  apply h4
  unfold leftRk at *
  omega
theorem weak_more {p : Pm} {seed : Int} {W V : List (List Int)} {t : Nat} (hl : V.length = W.length) (hW : ∀ i x, x ∈ W.getD i [] → x ∈ V.getD i []) (h : weakI p seed W t = none) : weakI p seed V t = none := by
  unfold weakI at h ⊢
  rw [hl]
  rw [List.find?_eq_none] at h ⊢
  intro g hg hb
  have h1 : (leftRk p seed W g : Int) = colsP p := by simpa using h g hg
  have h2 := leftRk_le (p := p) (seed := seed) (W := W) (V := V) (g := g) (g' := g) (by omega) (fun _ h => h) hW
  have h3 := rankI_le p seed (leftI V g V.length)
  have h4 : (leftRk p seed V g : Int) ≠ colsP p := of_decide_eq_true hb
  apply h4
  unfold leftRk at *
  omega
def moreI (W : List (List Int)) (id : Int) (k : Nat) : List (List Int) := W.mapIdx fun i l => if i < k then l ++ [IntKind.wrap .i64 (id + (i : Int)) % 40] else l
theorem more_len (W : List (List Int)) (id : Int) (k : Nat) : (moreI W id k).length = W.length := by simp [moreI]
theorem more_get (W : List (List Int)) (id : Int) (k : Nat) {i : Nat} (hi : i < W.length) : (moreI W id k)[i]'(by rw [more_len]; exact hi) = if i < k then W[i] ++ [IntKind.wrap .i64 (id + (i : Int)) % 40] else W[i] := by simp [moreI]
theorem more_set (W : List (List Int)) (id : Int) {k : Nat} (hk : k < W.length) : (moreI W id k).set k (W[k] ++ [IntKind.wrap .i64 (id + (k : Int)) % 40]) = moreI W id (k + 1) := by
  apply List.ext_getElem (by rw [List.length_set, more_len, more_len])
  intro i h1 h2
  rw [more_len] at h2
  rw [List.getElem_set]
  by_cases hik : k = i
  · subst hik
    rw [if_pos rfl, more_get W id (k + 1) h2, if_pos (by omega)]
  · rw [if_neg hik, more_get W id k h2, more_get W id (k + 1) h2]
    by_cases h3 : i < k
    · rw [if_pos h3, if_pos (by omega)]
    · rw [if_neg h3, if_neg (by omega)]
theorem more_sub (W : List (List Int)) (id : Int) (k i : Nat) (x : Int) (h : x ∈ W.getD i []) : x ∈ (moreI W id k).getD i [] := by
  rw [List.getD_eq_getElem?_getD] at h ⊢
  by_cases hi : i < W.length
  · rw [List.getElem?_eq_getElem hi] at h
    rw [List.getElem?_eq_getElem (by rw [more_len]; exact hi), Option.getD_some, more_get W id k hi]
    split
    · exact List.mem_append_left _ h
    · exact h
  · rw [List.getElem?_eq_none (by omega)] at h; cases h
set_option maxHeartbeats 8000000 in
theorem mmore_spec (a b c seed : Int) (l : Sl) (ml : List Int) (n t id : Int) (h : Heap) (hl : Rd h l 1 intv ml) :
    Meets Try.prog wellspringlaw27_MarginMore_id #[.int .i64 a, .int .i64 b, .int .i64 c, .int .u64 seed, .slice l.ptr l.len l.cap, .int .i64 n, .int .i64 t, .int .i64 id] h fun v h' => v = .bool true ∧ Pres (fun b => b < h.size) h h' := by
  refine wellspringlaw27_MarginMore_run a b c seed l n t id ?_
  unfold wellspringlaw27_MarginMore_m
  refine (small_spec a b c h).mono ?_
  rintro v h1 ⟨rfl, H1⟩
  obtain ⟨p, hp⟩ : ∃ p, p = smallP a b c := ⟨_, rfl⟩
  have hmay : mayP p = true := by rw [hp]; exact smallP_may a b c
  rw [← hp]
  refine ⟨p, rfl, ?_⟩
  refine H1.alloc C_ok rfl fun x h2 H2 => ?_
  refine H2.storeAll C_ok 0 rfl rfl [.int .i64 p.1, .int .i64 p.2.1, .int .i64 p.2.2] rfl rfl rfl rfl fun h3 H3 => ?_
  refine ⟨p, (H3.box 0 rfl).cells0 _ rfl, (seed_spec p seed h3).mono ?_⟩
  rintro v h4 ⟨s, rfl, R4⟩
  have H4 := H3.up R4.pres
  refine ⟨s, rfl, (within_spec n 5 h4 (by decide) (by decide)).mono ?_⟩
  rintro v h5 ⟨rfl, rfl⟩
  refine ⟨_, rfl, ?_⟩
  dsimp only
  obtain ⟨m, hm⟩ : ∃ m : Nat, 1 + n % 5 = m := ⟨(1 + n % 5).toNat, by omega⟩
  rw [hm, wrap_small (m : Int) (by omega) (by omega)]
  have hm2 : 1 ≤ m ∧ m ≤ 5 := by omega
  refine (within_spec t _ h5 (by omega) (by omega)).mono ?_
  rintro v h6 ⟨rfl, rfl⟩
  obtain ⟨T, hT⟩ : ∃ T : Nat, t % (m : Int) = T := ⟨(t % (m : Int)).toNat, by have := Int.emod_nonneg t (show (m : Int) ≠ 0 by omega); omega⟩
  have hT2 : T < m := by have := Int.emod_lt_of_pos t (show (0 : Int) < (m : Int) by omega); omega
  rw [hT]
  refine ⟨_, rfl, ?_⟩
  dsimp only
  refine (where_spec l ml m h6 (Seq.up hl H4.pres) (by omega) (by omega)).mono ?_
  rintro v h7 ⟨w, rfl, R7⟩
  have H7 := H4.comp R7
  obtain ⟨W, hW⟩ : ∃ W, W = whereW ml m := ⟨_, rfl⟩
  have hWl : W.length = m := by rw [hW]; exact where_len _ _ _
  have hWr' : ∀ l ∈ W, l.length ≤ 40 := fun l hl => by
    rw [hW] at hl
    have h8 := where_row _ _ _ l hl
    have : (idsOf ml 40).length ≤ 40 := by simp [idsOf]; omega
    omega
  have hWr : ∀ l ∈ W, l.length ≤ 2 ^ 20 := fun l hl => by have := hWr' l hl; omega
  rw [← hW] at H7
  have H7' : Sp h h7 [BoxA x T_api_Params [.int .i64 p.1, .int .i64 p.2.1, .int .i64 p.2.2], RowsE T_sl_int w 1 slv (EltS 1 intv) W] := H7
  refine ⟨w, rfl, p, (H7'.box 0 rfl).cells0 _ rfl, (marginWeak_spec p s w W T h7 (H7'.eRd 1 rfl (fun _ => rfl)) (by omega) hWr (by omega)).mono ?_⟩
  rintro v h8 ⟨r8, rfl, R8⟩
  rw [weakR_ok hmay s W (show T ≤ W.length by omega) (by omega)] at R8 ⊢
  have H8 := H7'.comp R8
  refine ⟨(r8, _, _), rfl, ?_⟩
  have e2 : (wkOut (weakI p s W T)).2.2 = 0 := by cases weakI p s W T <;> rfl
  have e1 : (wkOut (weakI p s W T)).2.1 = (weakI p s W T).isSome := by cases weakI p s W T <;> rfl
  have e0 : (wkOut (weakI p s W T)).1 = (weakI p s W T).getD [] := by cases weakI p s W T <;> rfl
  rw [e0] at H8
  rw [e1, e2]
  dsimp only
  have H8' : Sp h h8 [BoxA x T_api_Params [.int .i64 p.1, .int .i64 p.2.1, .int .i64 p.2.2], RowsE T_sl_int w 1 slv (EltS 1 intv) W, EA (EltS 1 intv) r8 ((weakI p s W T).getD [])] := H8
  refine br_ne (fun e => absurd rfl e) fun _ => ?_
  refine (copies_int_spec w W h8 (H8'.eRd 1 rfl (fun _ => rfl)) (by omega) hWr).mono ?_
  rintro v h9 ⟨o, rs, rfl, hrs, R9⟩
  have H9 := H8'.comp R9
  have H9' : Sp h h9 ([BoxA x T_api_Params [.int .i64 p.1, .int .i64 p.2.1, .int .i64 p.2.2], RowsE T_sl_int w 1 slv (EltS 1 intv) W, EA (EltS 1 intv) r8 ((weakI p s W T).getD [])] ++ (OwnA T_sl_int o 1 slv rs :: ownRows T_int 1 intv rs (moreI W id 0))) := by
    have : moreI W id 0 = W := List.ext_getElem (more_len W id 0) fun i h1 h2 => by rw [more_get W id 0 h2, if_neg (by omega)]
    rw [this]; exact H9
  refine ⟨o, rfl, ?_⟩
  refine loop_inv (fun y : Nat × List Sl => (y.1 : Int)) (fun y h' => y.1 ≤ W.length ∧ y.2.length = W.length ∧ Sp h h' ([BoxA x T_api_Params [.int .i64 p.1, .int .i64 p.2.1, .int .i64 p.2.2], RowsE T_sl_int w 1 slv (EltS 1 intv) W, EA (EltS 1 intv) r8 ((weakI p s W T).getD [])] ++ (OwnA T_sl_int o 1 slv y.2 :: ownRows T_int 1 intv y.2 (moreI W id y.1)))) (fun y => W.length - y.1) (0, rs) rfl ⟨by simp, hrs, H9'⟩ ?_
  rintro ⟨k, rs⟩ h10 ⟨hk, hrl, H10⟩
  dsimp only at *
  have hml := more_len W id k
  have hrows : rs.length = (moreI W id k).length := by omega
  have hol := (H10.own 3 rfl).len
  refine br_dec (fun e => ?_) (fun e => ?_)
  · have hk' : k < W.length := by omega
    have gk := ownRows_get (e := T_int) (k := 1) (f := intv) hrows k (by omega)
    have hgr : (moreI W id k)[k]'(by omega) = W[k] := by rw [more_get W id k hk', if_neg (by omega)]
    rw [hgr] at gk
    have gk' : ([BoxA x T_api_Params [.int .i64 p.1, .int .i64 p.2.1, .int .i64 p.2.2], RowsE T_sl_int w 1 slv (EltS 1 intv) W, EA (EltS 1 intv) r8 ((weakI p s W T).getD [])] ++ (OwnA T_sl_int o 1 slv rs :: ownRows T_int 1 intv rs (moreI W id k)))[k + 4]? = some (OwnA T_int (rs[k]'(by omega)) 1 intv W[k]) := gk
    refine (H10.seq 3 rfl (fun _ => rfl)).getS k rfl (by omega) fun a1 ha1 hb1 => ?_
    refine (within_spec _ 40 h10 (by decide) (by decide)).mono ?_
    rintro v h11 ⟨rfl, rfl⟩
    refine ⟨_, rfl, ⟨ha1, trivial⟩, ?_⟩
    have h40 := hWr' _ (List.getElem_mem hk')
    refine H10.litHeld C_ok intv eInt rfl [IntKind.wrap .i64 (id + (k : Int)) % 40] rfl (show 1 * 1 ≤ 2 ^ 20 by decide) rfl ⟨ha1, trivial⟩ ?_
    refine H10.push C_ok (k + 4) gk' eInt rfl (by decide) (fun _ => rfl) one_int (IntKind.wrap .i64 (id + (k : Int)) % 40) rfl (by decide) (by omega) fun s5 h12 H12 => ⟨trivial, ?_⟩
    refine H12.set C_ok 3 rfl (fun _ => rfl) rfl k rfl (by omega) s5 rfl rfl rfl fun h13 H13 => ⟨trivial, ?_⟩
    refine ⟨(k + 1, rs.set k s5), by dsimp only; rw [wrap_small _ (by omega) (by omega)]; rfl, ⟨by dsimp only; omega, by simp [hrl], ?_⟩, by dsimp only; omega⟩
    dsimp only
    rw [← more_set W id hk', ← ownRows_set hrows]
    exact H13
  · have hke : k = W.length := by omega
    obtain ⟨V, hV⟩ : ∃ V, V = moreI W id k := ⟨_, rfl⟩
    rw [← hV] at H10 hml hrows
    have H11 := SpB.matRows (As := [BoxA x T_api_Params [.int .i64 p.1, .int .i64 p.2.1, .int .i64 p.2.2], RowsE T_sl_int w 1 slv (EltS 1 intv) W, EA (EltS 1 intv) r8 ((weakI p s W T).getD [])]) H10 hrows (fun _ => rfl) W.length (by omega)
    rw [List.take_of_length_le (by omega)] at H11
    have e3 : (⟨o.ptr, W.length, o.cap⟩ : Sl) = o := by obtain ⟨p, l2, c⟩ := o; simp at hol ⊢; omega
    rw [e3] at H11
    have hVr : ∀ l ∈ V, l.length ≤ 2 ^ 20 := fun l hl => by
      rw [hV] at hl
      obtain ⟨i, hi, rfl⟩ := List.getElem_of_mem hl
      rw [more_len] at hi
      rw [more_get W id k hi]
      have := hWr' _ (List.getElem_mem hi)
      split
      · simp; omega
      · omega
    have hsub : ∀ i y, y ∈ W.getD i [] → y ∈ V.getD i [] := fun i y hy => by rw [hV]; exact more_sub W id k i y hy
    have H12 : Sp h h10 [BoxA x T_api_Params [.int .i64 p.1, .int .i64 p.2.1, .int .i64 p.2.2], RowsE T_sl_int w 1 slv (EltS 1 intv) W, EA (EltS 1 intv) r8 ((weakI p s W T).getD []), RowsE T_sl_int o 1 slv (EltS 1 intv) V] := H11
    refine br_b (fun hsome => ?_) (fun hnone => ?_)
    · obtain ⟨g, hg⟩ := Option.isSome_iff_exists.1 hsome
      have hr8 := H12.eAt 2 rfl
      rw [hg, Option.getD_some] at hr8
      have hgm : g ∈ setsI W.length T := List.mem_of_find?_eq_some hg
      have hgl : g.length = T := by
        obtain ⟨y, hy, rfl⟩ := List.mem_map.1 hgm
        rw [ints_len, (mem_sets hy).1]
      have hgb : (leftRk p s W g : Int) ≠ colsP p := by
        unfold weakI at hg
        have := List.find?_some hg
        exact of_decide_eq_true this
      have hglen := Seq.len hr8
      refine br_eq (fun _ => ?_) (fun e5 => absurd (by rw [hglen]; omega) e5)
      have hb := H12.box 0 rfl
      refine ⟨p, hb.cells0 _ rfl, p, hb.cells0 _ rfl, (marginRank_spec p s w r8 W g h10 (H12.eRd 1 rfl (fun _ => rfl)) hr8 (by omega) hWr (by omega)).mono ?_⟩
      rintro v h13 ⟨rfl, R13⟩
      have H13 := H12.up R13.pres
      have hb13 := H13.box 0 rfl
      refine ⟨_, rfl, ⟨hb13.cell0 rfl, hb13.cell rfl, hb13.cell rfl, trivial⟩, (pre_Cols_spec p h13).mono ?_⟩
      rintro v h14 ⟨rfl, R14⟩
      have H14 := H13.up R14.pres
      refine ⟨_, rfl, trivial, ?_⟩
      have hle := rankI_le p s (leftI W g W.length)
      have hlt : (leftRk p s W g : Int) < colsP p := by unfold leftRk at *; omega
      refine br_t (decide_eq_true hlt) ?_
      have hb14 := H14.box 0 rfl
      have P14 := up R13.pres R14.pres
      refine ⟨p, hb14.cells0 _ rfl, p, hb14.cells0 _ rfl, (marginRank_spec p s o r8 V g h14 (H14.eRd 3 rfl (fun _ => rfl)) (Seq.up hr8 P14) (by omega) hVr (by omega)).mono ?_⟩
      rintro v h15 ⟨rfl, R15⟩
      have H15 := H14.up R15.pres
      have hb15 := H15.box 0 rfl
      refine ⟨_, rfl, ⟨hb15.cell0 rfl, hb15.cell rfl, hb15.cell rfl, trivial⟩, (marginRank_spec p s w r8 W g h15 (H15.eRd 1 rfl (fun _ => rfl)) (Seq.up hr8 (up P14 R15.pres)) (by omega) hWr (by omega)).mono ?_⟩
      rintro v h16 ⟨rfl, R16⟩
      have H16 := H15.up R16.pres
      refine ⟨_, rfl, trivial, ?_⟩
      have h5 := leftRk_le (p := p) (seed := s) (W := W) (V := V) (g := g) (g' := g) (by omega) (fun _ h => h) hsub
      refine br_t (decide_eq_true (Int.ofNat_le.2 h5)) ?_
      refine (mwakes_spec h16).mono ?_
      rintro v h17 ⟨rfl, R17⟩
      exact ⟨_, rfl, trivial, rfl, (H16.up R17.pres).pres⟩
    · have hn : weakI p s W T = none := by simpa using hnone
      refine ⟨p, (H12.box 0 rfl).cells0 _ rfl, (marginWeak_spec p s o V T h10 (H12.eRd 3 rfl (fun _ => rfl)) (by omega) hVr (by omega)).mono ?_⟩
      rintro v h13 ⟨r13, rfl, R13⟩
      have H13 := H12.up R13.pres
      rw [weakR_ok hmay s V (show T ≤ V.length by omega) (by omega), weak_more (by omega) hsub hn]
      refine ⟨(r13, false, 0), rfl, join_in ?_⟩
      refine br_f rfl (br_ne (fun e => absurd rfl e) fun _ => ?_)
      refine loop_inv (fun k : Nat => (k : Int)) (fun k h' => k ≤ T ∧ Sp h h' [BoxA x T_api_Params [.int .i64 p.1, .int .i64 p.2.1, .int .i64 p.2.2], RowsE T_sl_int w 1 slv (EltS 1 intv) W, EA (EltS 1 intv) r8 ((weakI p s W T).getD []), RowsE T_sl_int o 1 slv (EltS 1 intv) V]) (fun k => T - k) 0 rfl ⟨by omega, H13⟩ ?_
      rintro k h14 ⟨hk, H14⟩
      refine br_dec (fun e5 => ?_) (fun e5 => ?_)
      · have hk' : k < T := by omega
        refine ⟨p, (H14.box 0 rfl).cells0 _ rfl, (marginWeak_spec p s w W k h14 (H14.eRd 1 rfl (fun _ => rfl)) (by omega) hWr (by omega)).mono ?_⟩
        rintro v h15 ⟨r15, rfl, R15⟩
        have H15 := H14.up R15.pres
        rw [weakR_ok hmay s W (show k ≤ W.length by omega) (by omega), weak_less (show k ≤ T by omega) (by omega) hn]
        refine ⟨(r15, false, 0), rfl, ?_⟩
        refine br_f rfl (br_ne (fun e => absurd rfl e) fun _ => ?_)
        exact ⟨k + 1, by rw [wrap_small _ (by omega) (by omega)]; rfl, ⟨by omega, H15⟩, by omega⟩
      · refine (mwakes_spec h14).mono ?_
        rintro v h15 ⟨rfl, R15⟩
        exact ⟨_, rfl, rfl, (H14.up R15.pres).pres⟩
end Go.Proofs.Ytmadbodaleaaeaa
