/- Part of the proofs that wellspringlaw14's laws answer true whatever the input reads, and leave it as it was; no condition. -/
import Derived.Test.YtkcplnfomahleaaGreatDoorKC
set_option linter.unusedVariables false
set_option linter.unusedSimpArgs false
namespace Go.Proofs.YtkcplnfomahleaaGreatDoor
open Go Go.Vc Go.Proofs Wl
set_option maxRecDepth 100000
theorem SpB.ownY {B : Blocks} {h0 h : Heap} {As : List HP} {e : Nat} {r : Sl} {l : Row} (H : SpB B h0 h As) (i : Nat) (hi : As[i]? = some (OwnA e r 1 u8v l)) (id : Int) : SpB B h0 h (As.set i (EA EltY (id, r) (id, l))) :=
  H.weak i hi fun q ⟨a, b⟩ => ⟨rfl, a.seq (fun _ => rfl) b⟩
theorem symbols_spec {p : Pm} {seed : Int} {d : Row} {K Hh w n : Nat} (B : BlkOk p seed d K Hh w n) (b : Addr) (ids : Sl) (il : List Int) (most : Nat) (h : Heap) (hb : BlkA h b p seed (midP p seed d)) (hi : Rd h ids 1 intv il) (hm : most ≤ 100) :
    Meets Tryz.prog wellspringlaw14_Symbols_id #[.pointer (some b), .slice ids.ptr ids.len ids.cap, .int .i64 most] h fun v h' => ∃ o : Sl, v = .slice o.ptr o.len o.cap ∧ Sp h h' [RowsE T_api_Symbol o 2 yv EltY (trueSyms p seed (midP p seed d) ((il.take most).map (· % 60)))] := by
  refine wellspringlaw14_Symbols_run (some b) ids _ ?_
  unfold wellspringlaw14_Symbols_m
  have hil := hi.len
  refine join_in ?_
  refine loop_inv (fun t : Nat × Sl => (t.2, (t.1 : Int))) (fun t h' => t.1 ≤ il.length ∧ t.1 ≤ most ∧ Sp h h' [RowsE T_api_Symbol t.2 2 yv EltY (trueSyms p seed (midP p seed d) ((il.take t.1).map (· % 60)))]) (fun t => il.length - t.1) (0, ⟨none, 0, 0⟩) rfl ⟨by simp, by simp, (Sp.refl h).eNil T_api_Symbol 2 yv EltY⟩ ?_
  rintro ⟨i, o⟩ h1 ⟨h1l, h1m, H1⟩
  dsimp only at *
  have done : (¬ i < il.length ∨ ¬ i < most) → ∃ o' : Sl, Value.slice o.ptr o.len o.cap = .slice o'.ptr o'.len o'.cap ∧ Sp h h1 [RowsE T_api_Symbol o' 2 yv EltY (trueSyms p seed (midP p seed d) ((il.take most).map (· % 60)))] := fun hh => by
    have e : il.take i = il.take most := by
      rcases hh with hh | hh
      · rw [List.take_of_length_le (by omega), List.take_of_length_le (by omega)]
      · rw [show i = most by omega]
    exact ⟨o, rfl, by rw [← e]; exact H1⟩
  refine join_in (br_dec (fun e => br_dec (fun e2 => ?_) (fun e2 => ?_)) (fun e => ?_))
  · have hi' : i < il.length := by omega
    refine (Seq.up hi H1.pres).get1 i rfl hi' _ rfl ?_
    refine (within_spec il[i] 60 h1 (by decide) (by decide)).mono ?_
    rintro _ h2 ⟨rfl, rfl⟩
    have hr0 := Int.emod_nonneg il[i] (show (60 : Int) ≠ 0 by decide)
    have hr1 := Int.emod_lt_of_pos il[i] (show (0 : Int) < 60 by decide)
    refine ⟨_, rfl, (B.symbol b (il[i] % 60) h2 (hb.up H1.pres)).mono ?_⟩
    rintro _ h3 ⟨r, rfl, R3⟩
    have hmi : mayID (il[i] % 60) = true := by unfold mayID; simp; omega
    rw [hmi, if_pos rfl] at R3
    have H3 := SpB.ownY (H1.comp R3) 1 rfl (il[i] % 60)
    refine ⟨r, rfl, ?_⟩
    have hlen : (trueSyms p seed (midP p seed d) ((il.take i).map (· % 60))).length = i := by simp [trueSyms]; omega
    refine H3.ePush C_ok 0 1 (by decide) rfl rfl eSym rfl (by decide) (fun _ => rfl) one_yv rfl (by decide) (by omega) fun o' h4 H4 => ?_
    refine ⟨(i + 1, o'), by dsimp only; rw [Go.Vc.wrap_small _ (by omega) (by omega)]; rfl, ⟨by dsimp only; omega, by dsimp only; omega, ?_⟩, by dsimp only; omega⟩
    dsimp only
    have e5 : trueSyms p seed (midP p seed d) ((il.take (i + 1)).map (· % 60)) = trueSyms p seed (midP p seed d) ((il.take i).map (· % 60)) ++ [(il[i] % 60, symB w (midP p seed d) (colsI n seed (il[i] % 60)))] := by
      rw [take_snoc _ _ hi']
      simp only [trueSyms, List.map_append, List.map_cons, List.map_nil, B.size, B.colsN]
    rw [e5]
    exact H4.sel [0]
  · exact done (.inr (by omega))
  · exact done (.inl (by omega))
theorem syms_mid (il : List Int) (k : Nat) : ∀ i ∈ (il.take k).map (· % 60), mayID i = true := fun i hi => by
  obtain ⟨x, _, rfl⟩ := List.mem_map.1 hi
  have hr0 := Int.emod_nonneg x (show (60 : Int) ≠ 0 by decide)
  have hr1 := Int.emod_lt_of_pos x (show (0 : Int) < 60 by decide)
  unfold mayID; simp; omega
theorem back_law (a b c seed : Int) (data : Sl) (dl : Row) (ids : Sl) (il : List Int) (h : Heap) (hd : Rd h data 1 u8v dl) (hi : Rd h ids 1 intv il) :
    Meets Tryz.prog wellspringlaw14_DecodeBack_id #[.int .i64 a, .int .i64 b, .int .i64 c, .int .u64 seed, .slice data.ptr data.len data.cap, .slice ids.ptr ids.len ids.cap] h fun v h' => v = .bool true ∧ Pres (fun b => b < h.size) h h' := by
  refine wellspringlaw14_DecodeBack_run a b c seed data ids ?_
  unfold wellspringlaw14_DecodeBack_m
  refine (params_spec a b c h).mono ?_
  rintro _ h1 ⟨rfl, R1⟩
  obtain ⟨p, hp⟩ : ∃ p, p = playP a b c := ⟨_, rfl⟩
  have hmay : mayP p = true := by rw [hp]; exact playP_may a b c
  rw [← hp]
  have hmp := (mayP_iff p).1 hmay
  refine ⟨p, rfl, R1.alloc C_ok rfl fun a2 h2 H2 => ?_⟩
  refine H2.storeAll C_ok 0 rfl rfl [.int .i64 p.1, .int .i64 p.2.1, .int .i64 p.2.2] rfl rfl rfl rfl fun h3 H3 => ?_
  refine ⟨p, (H3.box 0 rfl).cells0 _ rfl, (seed_spec p seed h3).mono ?_⟩
  rintro _ h4 ⟨s, rfl, R4⟩
  have H4 := H3.up R4.pres
  refine ⟨s, rfl, p.1, (H4.box 0 rfl).cell0 rfl, p.2.2, (H4.box 0 rfl).cell rfl, ?_⟩
  obtain ⟨K, hK⟩ : ∃ K : Nat, p.1 = K := ⟨p.1.toNat, by omega⟩
  obtain ⟨Hh, hH⟩ : ∃ H : Nat, p.2.1 = H := ⟨p.2.1.toNat, by omega⟩
  obtain ⟨w, hw⟩ : ∃ w : Nat, p.2.2 = w := ⟨p.2.2.toNat, by omega⟩
  have hKw : K * w ≤ 16 * 24 := Nat.mul_le_mul (by omega) (by omega)
  have eKw : p.1 * p.2.2 = ((K * w : Nat) : Int) := by rw [hK, hw, Int.natCast_mul]
  rw [eKw, i64_of_nat _ (by omega)]
  refine (data_spec data dl (K * w) h4 (Seq.up hd H4.pres) (by omega)).mono ?_
  rintro _ h5 ⟨x, rfl, R5⟩
  have H5 := H4.comp R5
  have hxl := dataB_len dl (K * w)
  have hxc := (H5.own 1 rfl).cap
  have hxn := (H5.own 1 rfl).len
  refine ⟨x, rfl, p, (H5.box 0 rfl).cells0 _ rfl, ?_⟩
  generalize dataB dl (K * w) = d at *
  refine (new_spec p s x d h5 (H5.seq 1 rfl fun _ => rfl) hxc).mono ?_
  rintro v h6 ⟨n1, n2⟩
  have hnew : newE p s d.length = if fullI p s (firstI p) then 0 else 8 := by rw [newE, hmay, decide_eq_true (by rw [eKw, hxl])]; rfl
  cases hf : fullI p s (firstI p) with
  | false =>
    rw [hf, if_neg (by simp)] at hnew
    obtain ⟨rfl, R6⟩ := n2 (by rw [hnew]; decide)
    rw [hnew]
    refine ⟨(none, 8), rfl, br_ne (fun _ => br_eq (fun _ => ?_) (fun e => absurd rfl e)) (fun e => absurd e (by decide))⟩
    refine (dwakes_spec h6).mono ?_
    rintro _ h7 ⟨rfl, R7⟩
    exact ⟨_, rfl, rfl, ((H5.up R6.pres).up R7.pres).pres⟩
  | true =>
    rw [hf, if_pos rfl] at hnew
    obtain ⟨y, m, rfl, R6⟩ := n1 hnew
    have B : BlkOk p s d K Hh w (K + Hh) := ⟨hmay, hf, hK, hH, hw, rfl, by omega, by omega, by omega, by omega, by omega, by omega, by omega⟩
    have H6 := H5.comp R6
    refine ⟨(some y, 0), rfl, br_ne (fun e => absurd rfl e) fun _ => br_b (fun e => by cases e) fun _ => ?_⟩
    refine (symbols_spec B y ids il 36 h6 ⟨m, H6.box 3 rfl, H6.rd2 2 rfl⟩ (Seq.up hi H6.pres) (by decide)).mono ?_
    rintro _ h7 ⟨o, rfl, R7⟩
    have H7 := H6.comp R7
    have hid := syms_mid il 36
    generalize hjl : (il.take 36).map (· % 60) = js at hid R7 H7
    have hjl36 : js.length ≤ 36 := by rw [← hjl]; simp; omega
    refine ⟨o, rfl, ?_⟩
    obtain ⟨ys, H7⟩ := H7.eFix 4 rfl fun _ => rfl
    obtain ⟨sy, hsy⟩ : ∃ sy, sy = trueSyms p s (midP p s d) js := ⟨_, rfl⟩
    rw [← hsy] at H7
    have hsl : sy.length = js.length := by rw [hsy]; simp [trueSyms]
    have hsm : sy.map Prod.fst = js := by rw [hsy, true_ids]
    have F7 := H7.fixRd 4 rfl
    have hol := F7.1.len
    have hyl := F7.2.1
    have H8 : Sp h h7 [OwnA T_int ⟨none, 0, 0⟩ 1 intv ((sy.take 0).map Prod.fst), BoxA a2 T_api_Params [.int .i64 p.1, .int .i64 p.2.1, .int .i64 p.2.2], OwnA T_uint8 x 1 u8v d, FixA EltY 2 yv o ys sy] := (H7.nil T_int 1 intv).sel [5, 0, 1, 4]
    refine loop_inv (fun t : Nat × Sl => (t.2, (t.1 : Int))) (fun t h' => t.1 ≤ sy.length ∧ Sp h h' [OwnA T_int t.2 1 intv ((sy.take t.1).map Prod.fst), BoxA a2 T_api_Params [.int .i64 p.1, .int .i64 p.2.1, .int .i64 p.2.2], OwnA T_uint8 x 1 u8v d, FixA EltY 2 yv o ys sy]) (fun t => sy.length - t.1) (0, ⟨none, 0, 0⟩) rfl ⟨by simp, H8⟩ ?_
    rintro ⟨i, u⟩ h9 ⟨hi9, H9⟩
    dsimp only at *
    have F9 := H9.fixRd 3 rfl
    refine br_dec (fun e => ?_) (fun e => ?_)
    · have hi' : i < sy.length := by omega
      obtain ⟨y1, y2⟩ := Fix.row F9 hi'
      refine F9.1.getk (g := yv) i rfl (by omega) (ys[i]'(by omega)) rfl ?_
      refine H9.alloc C_ok rfl fun a15 h10 H10 => ?_
      refine H10.storeAll C_ok 4 rfl rfl (yv (ys[i]'(by omega))) rfl rfl rfl rfl fun h11 H11 => ?_
      refine ⟨(ys[i]'(by omega)).1, (H11.box 4 rfl).cell0 rfl, ?_⟩
      refine H11.push C_ok 0 rfl eInt rfl (by decide) (fun _ => rfl) one_int (ys[i]'(by omega)).1 rfl (by decide) (by simp; omega) fun u' h12 H12 => ?_
      refine ⟨(i + 1, u'), by dsimp only; rw [Go.Vc.wrap_small _ (by omega) (by omega)]; rfl, ⟨by dsimp only; omega, ?_⟩, by dsimp only; omega⟩
      dsimp only
      rw [take_snoc _ _ hi', List.map_append]
      rw [y1] at H12
      exact H12.sel [0, 1, 2, 3]
    have hie : i = sy.length := by omega
    subst hie
    rw [List.take_length, hsm] at H9
    refine ⟨p, (H9.box 1 rfl).cells0 _ rfl, (block_spec p s o sy h9 F9.elt (by omega)).mono ?_⟩
    rintro _ h10 ⟨r, rfl, R10⟩
    have H10 := H9.comp R10
    refine ⟨(r, (decB p s sy).2), rfl, p, (H10.box 1 rfl).cells0 _ rfl, ?_⟩
    refine (full_spec p s u js h10 (H10.seq 0 rfl fun _ => rfl) (by omega)).mono ?_
    rintro _ h11 ⟨rfl, R11⟩
    have H11 := H10.up R11.pres
    refine ⟨_, rfl, ?_⟩
    cases hfu : fullI p s js with
    | false =>
      have hdec : decB p s sy = ([], 9) := dec_rank hmay (by rw [hsy]; exact B.trueOk hid) (by rw [hsm]; exact hfu)
      rw [hdec] at H11
      rw [hdec]
      refine br_not (fun _ => ?_) (fun e => by cases e)
      have hrl := (H11.own 4 rfl).len
      refine br_eq (fun _ => br_eq (fun _ => ?_) (fun e => absurd (by rw [hrl]; rfl) e)) (fun e => absurd rfl e)
      refine (dwakes_spec h11).mono ?_
      rintro _ h12 ⟨rfl, R12⟩
      exact ⟨_, rfl, rfl, (H11.up R12.pres).pres⟩
    | true =>
      have hdec : decB p s sy = (d, 0) := by rw [hsy]; exact B.dec hid hfu
      rw [hdec] at H11
      rw [hdec]
      refine br_not (fun e => by cases e) (fun _ => ?_)
      refine br_eq (fun _ => ?_) (fun e => absurd rfl e)
      refine (sameB_spec r x d d h11 (H11.seq 4 rfl fun _ => rfl) (H11.seq 2 rfl fun _ => rfl) (by omega)).mono ?_
      rintro _ h12 ⟨rfl, rfl⟩
      refine ⟨_, rfl, br_b (fun _ => ?_) (fun e => by simp at e)⟩
      refine (dwakes_spec h12).mono ?_
      rintro _ h13 ⟨rfl, R13⟩
      exact ⟨_, rfl, rfl, (H11.up R13.pres).pres⟩
end Go.Proofs.YtkcplnfomahleaaGreatDoor
