/- Part of the proofs that wellspringlaw14's laws answer true whatever the input reads, and leave it as it was; no condition. -/
import Derived.Test.YtkcplnfomahleaaGreatDoorKD
set_option linter.unusedVariables false
set_option linter.unusedSimpArgs false
namespace Wl
theorem full_same {p : Int × Int × Int} {seed : Int} {a b : List Int} (h : ∀ i, i ∈ a ↔ i ∈ b) : fullI p seed a = fullI p seed b := by
  have hr : rankB (matI p seed a) = rankB (matI p seed b) := by
    refine rank_congr (matI_even p seed a) (matI_even p seed b) fun r => ?_
    unfold matI
    cases mayP p
    · rfl
    · simp only [if_true, List.mem_append, List.mem_map, List.mem_filter, h]
  unfold fullI rankI; rw [hr]
end Wl
namespace Go.Proofs.YtkcplnfomahleaaGreatDoor
open Go Go.Vc Go.Proofs Wl
set_option maxRecDepth 100000
theorem order_law (a b c seed : Int) (data : Sl) (dl : Row) (ids : Sl) (il : List Int) (turn : Int) (h : Heap) (hd : Rd h data 1 u8v dl) (hi : Rd h ids 1 intv il) :
    Meets Tryz.prog wellspringlaw14_DecodeOrder_id #[.int .i64 a, .int .i64 b, .int .i64 c, .int .u64 seed, .slice data.ptr data.len data.cap, .slice ids.ptr ids.len ids.cap, .int .i64 turn] h fun v h' => v = .bool true ∧ Pres (fun b => b < h.size) h h' := by
  refine wellspringlaw14_DecodeOrder_run a b c seed data ids turn ?_
  unfold wellspringlaw14_DecodeOrder_m
  refine (params_spec a b c h).mono ?_
  rintro _ h1 ⟨rfl, R1⟩
  obtain ⟨p, hp⟩ : ∃ p, p = playP a b c := ⟨_, rfl⟩
  have hmay : mayP p = true := by rw [hp]; exact playP_may a b c
  rw [← hp]
  have hmp := (mayP_iff p).1 hmay
  refine ⟨p, rfl, R1.alloc C_ok rfl fun a2 h2 H2 => ?_⟩
  refine H2.storeAll C_ok 0 rfl rfl [.int .i64 p.1, .int .i64 p.2.1, .int .i64 p.2.2] rfl rfl rfl rfl fun h3 H3 => ?_
  refine ⟨p, (H3.box 0 rfl).cells0 _ rfl, (seed_spec p seed h3).mono ?_⟩
  rintro _ h4 ⟨s, rfl, R4⟩
  have H4 := H3.up R4.pres
  refine ⟨s, rfl, join_in ⟨p, (H4.box 0 rfl).cells0 _ rfl, p.1, (H4.box 0 rfl).cell0 rfl, p.2.2, (H4.box 0 rfl).cell rfl, ?_⟩⟩
  obtain ⟨K, hK⟩ : ∃ K : Nat, p.1 = K := ⟨p.1.toNat, by omega⟩
  obtain ⟨Hh, hH⟩ : ∃ H : Nat, p.2.1 = H := ⟨p.2.1.toNat, by omega⟩
  obtain ⟨w, hw⟩ : ∃ w : Nat, p.2.2 = w := ⟨p.2.2.toNat, by omega⟩
  have hKw : K * w ≤ 16 * 24 := Nat.mul_le_mul (by omega) (by omega)
  have eKw : p.1 * p.2.2 = ((K * w : Nat) : Int) := by rw [hK, hw, Int.natCast_mul]
  rw [eKw, i64_of_nat _ (by omega)]
  refine (data_spec data dl (K * w) h4 (Seq.up hd H4.pres) (by omega)).mono ?_
  rintro _ h5 ⟨x, rfl, R5⟩
  have H5 := H4.comp R5
  have hxl := dataB_len dl (K * w)
  have hxc := (H5.own 1 rfl).cap
  have hxn := (H5.own 1 rfl).len
  have hb5 := H5.box 0 rfl
  refine ⟨x, rfl, ⟨hb5.cell rfl, hb5.cell0 rfl, hb5.cell0 rfl, hb5.cell rfl, hb5.cell rfl, trivial⟩, ?_⟩
  generalize dataB dl (K * w) = d at *
  refine (new_spec p s x d h5 (H5.seq 1 rfl fun _ => rfl) hxc).mono ?_
  rintro v h6 ⟨n1, n2⟩
  have hnew : newE p s d.length = if fullI p s (firstI p) then 0 else 8 := by rw [newE, hmay, decide_eq_true (by rw [eKw, hxl])]; rfl
  cases hf : fullI p s (firstI p) with
  | false =>
    rw [hf, if_neg (by simp)] at hnew
    obtain ⟨rfl, R6⟩ := n2 (by rw [hnew]; decide)
    rw [hnew]
    have H6 := H5.up R6.pres
    have hb6 := H6.box 0 rfl
    refine ⟨(none, 8), rfl, ⟨hb6.cell rfl, hb6.cell0 rfl, trivial⟩, join_in ?_⟩
    refine br_ne (fun _ => br_eq (fun _ => ?_) (fun e => absurd rfl e)) (fun e => absurd e (by decide))
    refine (dwakes_spec h6).mono ?_
    rintro _ h7 ⟨rfl, R7⟩
    exact ⟨_, rfl, rfl, (H6.up R7.pres).pres⟩
  | true =>
    rw [hf, if_pos rfl] at hnew
    obtain ⟨y, m, rfl, R6⟩ := n1 hnew
    have B : BlkOk p s d K Hh w (K + Hh) := ⟨hmay, hf, hK, hH, hw, rfl, by omega, by omega, by omega, by omega, by omega, by omega, by omega⟩
    have H6 := H5.comp R6
    have hb6 := H6.box 0 rfl
    refine ⟨(some y, 0), rfl, ⟨hb6.cell rfl, hb6.cell0 rfl, trivial⟩, join_in ?_⟩
    refine br_ne (fun e => absurd rfl e) fun _ => br_b (fun e => by cases e) fun _ => ?_
    refine (symbols_spec B y ids il 26 h6 ⟨m, H6.box 3 rfl, H6.rd2 2 rfl⟩ (Seq.up hi H6.pres) (by decide)).mono ?_
    rintro _ h7 ⟨o, rfl, R7⟩
    have H7 := H6.comp R7
    have hid := syms_mid il 26
    generalize hjl : (il.take 26).map (· % 60) = js at hid R7 H7
    have hjl36 : js.length ≤ 36 := by rw [← hjl]; simp; omega
    refine ⟨o, rfl, ?_⟩
    have hoc := (H7.eLen 4 rfl).2
    obtain ⟨ys, H7⟩ := H7.eFix 4 rfl fun _ => rfl
    obtain ⟨sy, hsy⟩ : ∃ sy, sy = trueSyms p s (midP p s d) js := ⟨_, rfl⟩
    rw [← hsy] at H7
    have hsl : sy.length = js.length := by rw [hsy]; simp [trueSyms]
    have hsm : sy.map Prod.fst = js := by rw [hsy, true_ids]
    have F7 := H7.fixRd 4 rfl
    have hol := F7.1.len
    have hyl := F7.2.1
    dsimp only
    rw [Go.Vc.wrap_small ((o.len : Int) + 1) (by omega) (by omega)]
    refine (within_spec turn ((o.len : Int) + 1) h7 (by omega) (by omega)).mono ?_
    rintro _ h8 ⟨rfl, rfl⟩
    obtain ⟨k, hk⟩ : ∃ k : Nat, turn % ((o.len : Int) + 1) = k := ⟨(turn % ((o.len : Int) + 1)).toNat, by have := Int.emod_nonneg turn (show ((o.len : Int) + 1) ≠ 0 by omega); omega⟩
    have hkl : k ≤ sy.length := by have := Int.emod_lt_of_pos turn (show 0 < (o.len : Int) + 1 by omega); omega
    rw [hk]
    refine ⟨_, rfl, p, (H7.box 0 rfl).cells0 _ rfl, (block_spec p s o sy h8 F7.elt (by omega)).mono ?_⟩
    rintro _ h9 ⟨r, rfl, R9⟩
    have H9 := H7.comp R9
    have hb9 := H9.box 0 rfl
    refine ⟨(r, (decB p s sy).2), rfl, ?_⟩
    have F9 := H9.fixRd 4 rfl
    refine join_in ⟨p, hb9.cells0 _ rfl, ⟨Int.natCast_nonneg _, Int.ofNat_le.2 (by omega)⟩, ?_⟩
    rw [Int.toNat_natCast]
    have H10 := H9.nil T_api_Symbol 2 yv
    refine H10.append C_ok 6 rfl eSym ⟨_, _, rfl, rfl⟩ rfl (by decide) (fun _ => rfl) ((H10.fixRd 4 rfl).1.drop k hoc) one_yv (by simp; omega) fun u h11 H11 => ?_
    have hb11 := H11.box 0 rfl
    refine ⟨⟨hb11.cell0 rfl, hb11.cell rfl, hb11.cell rfl, trivial⟩, ?_⟩
    refine H11.append C_ok 6 rfl eSym ⟨_, _, rfl, rfl⟩ rfl (by decide) (fun _ => rfl) (H11.fixRd 4 rfl).1 one_yv (by simp; omega) fun u' h12 H12 => ?_
    have hb12 := H12.box 0 rfl
    refine ⟨⟨hb12.cell0 rfl, hb12.cell rfl, hb12.cell rfl, trivial⟩, ?_⟩
    have F12 := H12.fixRd 4 rfl
    have hE : RdE EltYs h12 u' (sy.drop k ++ sy) := by
      refine ⟨_, H12.seq 6 rfl fun _ => rfl, by simp [hyl], fun i x y h1 h2 => ?_⟩
      rw [List.nil_append] at h1
      by_cases hik : i < sy.length - k
      · rw [List.getElem?_append_left (by simp; omega), List.getElem?_drop] at h1 h2
        exact F12.2.2 _ x y h1 h2
      · rw [List.getElem?_append_right (by simp; omega), List.length_drop] at h1 h2
        rw [hyl] at h1
        exact F12.2.2 _ x y h1 h2
    refine (block_spec p s u' _ h12 hE (by simp; omega)).mono ?_
    rintro _ h13 ⟨r', rfl, R13⟩
    have H13 := H12.comp R13
    have hsd : sy.drop k ++ sy = trueSyms p s (midP p s d) (js.drop k ++ js) := by rw [hsy]; simp [trueSyms, List.map_drop]
    have hid2 : ∀ i ∈ js.drop k ++ js, mayID i = true := fun i hi => by
      rcases List.mem_append.1 hi with hi | hi
      · exact hid i (List.mem_of_mem_drop hi)
      · exact hid i hi
    have hfs : fullI p s (js.drop k ++ js) = fullI p s js := full_same fun i => by
      rw [List.mem_append]; exact ⟨fun hh => hh.elim List.mem_of_mem_drop id, .inr⟩
    have hsame : decB p s (sy.drop k ++ sy) = decB p s sy := by
      cases hfu : fullI p s js with
      | true => rw [hsd, hsy, B.dec hid2 (by rw [hfs]; exact hfu), B.dec hid hfu]
      | false =>
        rw [hsd, dec_rank hmay (B.trueOk hid2) (by rw [true_ids, hfs]; exact hfu), hsy, dec_rank hmay (B.trueOk hid) (by rw [true_ids]; exact hfu)]
    rw [hsame] at H13
    refine ⟨(r', (decB p s (sy.drop k ++ sy)).2), rfl, trivial, ?_⟩
    rw [hsame]
    have hdl : (decB p s sy).1.length ≤ 2 ^ 40 := by
      cases hfu : fullI p s js with
      | true => rw [hsy, B.dec hid hfu]; dsimp only; omega
      | false => rw [hsy, dec_rank hmay (B.trueOk hid) (by rw [true_ids]; exact hfu)]; simp
    refine br_eq (fun _ => ?_) (fun e => absurd rfl e)
    refine (sameB_spec r r' _ _ h13 (H13.seq 5 rfl fun _ => rfl) (H13.seq 7 rfl fun _ => rfl) hdl).mono ?_
    rintro _ h14 ⟨rfl, rfl⟩
    refine ⟨_, rfl, br_b (fun _ => ?_) (fun e => by simp at e)⟩
    refine (dwakes_spec h14).mono ?_
    rintro _ h15 ⟨rfl, R15⟩
    exact ⟨_, rfl, rfl, (H13.up R15.pres).pres⟩
end Go.Proofs.YtkcplnfomahleaaGreatDoor
