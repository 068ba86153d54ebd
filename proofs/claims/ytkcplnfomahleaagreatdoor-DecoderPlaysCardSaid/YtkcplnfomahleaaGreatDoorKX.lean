/- Part of the proofs that wellspringlaw14's laws answer true whatever the input reads, and leave it as it was; no condition. -/
import Derived.Test.YtkcplnfomahleaaGreatDoorKD
import Derived.Test.YtkcplnfomahleaaGreatDoorRFB
set_option linter.unusedVariables false
set_option linter.unusedSimpArgs false
namespace Go.Proofs.YtkcplnfomahleaaGreatDoor
open Go Go.Vc Go.Proofs Wl
set_option maxRecDepth 100000
abbrev decC (p : Pm) (seed : Int) (l : Sl) : List Value := [.int .i64 p.1, .int .i64 p.2.1, .int .i64 p.2.2, .int .u32 seed, .slice l.ptr l.len l.cap]
theorem dnew_spec (p : Pm) (seed : Int) (h : Heap) : Meets Tryz.prog decode_New_id #[pmv p, .int .u32 seed] h fun v h' =>
    (mayP p = false → v = .pointer none ∧ Sp h h' []) ∧ (mayP p = true → ∃ a : Addr, v = .pointer (some a) ∧ Sp h h' [BoxA a T_decode_Decoder (decC p seed ⟨none, 0, 0⟩)]) := by
  refine decode_New_run p seed ?_
  unfold decode_New_m
  refine (Sp.refl h).boxed fun a1 h1 H1 => ?_
  refine ⟨p, (H1.box 0 rfl).cells0 _ rfl, (pre_May_spec p h1).mono ?_⟩
  rintro _ h2 ⟨rfl, R2⟩
  have H2 := H1.up R2.pres
  refine ⟨_, rfl, br_not (fun e => ?_) (fun e => ?_)⟩
  · exact ⟨fun _ => ⟨rfl, H2.sel []⟩, fun hh => (by rw [e] at hh; cases hh)⟩
  · refine ⟨p, (H2.box 0 rfl).cells0 _ rfl, H2.boxed fun a h3 H3 => ?_⟩
    exact ⟨fun hh => (by rw [e] at hh; cases hh), fun _ => ⟨a, rfl, H3.sel [1]⟩⟩
section
variable {B : Blocks} {h0 h : Heap} {As : List HP}
theorem dadd_spec (a : Addr) (p : Pm) (seed id : Int) (l data : Sl) (syms : List (Int × Row)) (row : Row) (H : SpB B h0 h (BoxA a T_decode_Decoder (decC p seed l) :: RowsE T_api_Symbol l 2 yv EltY syms :: As)) (hx : Rd h data 1 u8v row) (hr : row.length ≤ 2 ^ 20) (hs : syms.length ≤ 2 ^ 20) :
    Meets Tryz.prog decode_Decoder_Add_id #[.pointer (some a), .int .i64 id, .slice data.ptr data.len data.cap] h fun v h' => v = .bool (symB? p (id, row)) ∧ ∃ l' : Sl, SpB B h0 h' (BoxA a T_decode_Decoder (decC p seed l') :: RowsE T_api_Symbol l' 2 yv EltY (if symB? p (id, row) then syms ++ [(id, row)] else syms) :: As) := by
  refine decode_Decoder_Add_run (some a) id data ?_
  unfold decode_Decoder_Add_m
  refine (cloneB_spec data row h hx (by omega)).mono ?_
  rintro _ h1 ⟨r, rfl, R1⟩
  have H1 := H.comp1 R1
  refine ⟨r, rfl, H1.alloc C_ok rfl fun a2 h2 H2 => ?_⟩
  have H2 := H2.front1
  refine H2.storeAll C_ok 0 rfl rfl (yv (id, r)) rfl rfl rfl rfl fun h3 H3 => ?_
  refine join_in (br_b (fun e => by cases e) fun _ => ?_)
  refine ⟨a, rfl, p, (H3.box 2 rfl).cells0 _ rfl, (id, r), (H3.box 0 rfl).cells0 _ rfl, ?_⟩
  refine (dright_spec p (id, r) row h3 (H3.seq 1 rfl fun _ => rfl)).mono ?_
  rintro _ h4 ⟨rfl, R4⟩
  have H4 := H3.up R4.pres
  refine ⟨_, rfl, trivial, br_not (fun e => ?_) (fun e => ?_)⟩
  · exact ⟨by rw [e], l, by rw [e]; exact H4.selT 4 [2, 3]⟩
  · rw [e]
    refine ⟨a, rfl, l, (H4.box 2 rfl).cell rfl, (id, r), (H4.box 0 rfl).cells0 _ rfl, ?_⟩
    have H5 := SpB.ownY H4 1 rfl id
    refine H5.litHeld C_ok yv eSym rfl [(id, r)] rfl (show 1 * 2 ≤ 2 ^ 20 by decide) rfl ⟨(H5.box 2 rfl).cell rfl, trivial⟩ ?_
    refine H5.ePush C_ok 3 1 (by decide) rfl rfl eSym rfl (by decide) (fun _ => rfl) one_yv rfl (by decide) (by omega) fun l' h6 H6 => ⟨trivial, a, rfl, ?_⟩
    refine H6.store C_ok 2 rfl rfl 4 [.slice l'.ptr l'.len l'.cap] rfl rfl rfl (by simp [decC]) fun h7 H7 => ⟨trivial, rfl, l', ?_⟩
    exact H7.selT 4 [2, 3]
end
theorem dadd_nil (h : Heap) (id : Int) : Meets Tryz.prog decode_Decoder_Add_id #[.pointer none, .int .i64 id, .slice none 0 0] h fun v h' => v = .bool false ∧ Sp h h' [] := by
  refine decode_Decoder_Add_run none id ⟨none, 0, 0⟩ ?_
  unfold decode_Decoder_Add_m
  refine (cloneB_spec ⟨none, 0, 0⟩ [] h (Seq.nil _ _ _ _ _ _) (by decide)).mono ?_
  rintro _ h1 ⟨r, rfl, R1⟩
  refine ⟨r, rfl, R1.alloc C_ok rfl fun a2 h2 H2 => ?_⟩
  refine H2.storeAll C_ok 1 rfl rfl (yv (id, r)) rfl rfl rfl rfl fun h3 H3 => ?_
  exact join_in (br_b (fun _ => ⟨trivial, rfl, H3.sel []⟩) fun e => by cases e)
theorem dneed_spec (a : Addr) (p : Pm) (seed : Int) (l : Sl) (syms : List (Int × Row)) (h : Heap) (hb : Box h a T_decode_Decoder (decC p seed l)) (hl : RdE EltYs h l syms) (hs : syms.length ≤ 2 ^ 20) :
    Meets Tryz.prog decode_Decoder_Need_id #[.pointer (some a)] h fun v h' => v = .int .i64 (colsP p - rankI p seed (syms.map Prod.fst)) ∧ Sp h h' [] := by
  refine decode_Decoder_Need_run (some a) ?_
  unfold decode_Decoder_Need_m
  refine br_b (fun e => by cases e) fun _ => ?_
  refine ⟨a, rfl, p, hb.cells0 _ rfl, a, rfl, p, hb.cells0 _ rfl, a, rfl, seed, hb.cell rfl, a, rfl, l, hb.cell rfl, (pre_Cols_spec p h).mono ?_⟩
  rintro _ h1 ⟨rfl, R1⟩
  have hb1 := hb.pres R1.pres hb.lt
  refine ⟨_, rfl, ⟨hb1.cell rfl, hb1.cell rfl, hb1.cell0 rfl, hb1.cell rfl, hb1.cell rfl, trivial⟩, ?_⟩
  refine (ids_spec' l syms h1 (RdE.up hl R1.pres) (by omega)).mono ?_
  rintro _ h2 ⟨r, rfl, R2⟩
  have hb2 := hb1.pres R2.pres hb1.lt
  refine ⟨r, rfl, ⟨hb2.cell rfl, hb2.cell0 rfl, hb2.cell rfl, hb2.cell rfl, trivial⟩, ?_⟩
  refine (gf_sys_Rank_spec p seed r _ h2 (R2.seq 0 rfl fun _ => rfl) (by simp; omega)).mono ?_
  rintro _ h3 ⟨rfl, R3⟩
  refine ⟨_, rfl, trivial, ?_, .zip (up (up R1.pres R2.pres) R3.pres)⟩
  have h1 := rankI_le p seed (syms.map Prod.fst)
  have h2 : colsP p ≤ 20 := by
    unfold colsP
    split
    · rename_i hp; have := (mayP_iff p).1 hp; omega
    · omega
  rw [Go.Vc.wrap_small _ (by omega) (by omega)]
theorem dneed_nil (h : Heap) : Meets Tryz.prog decode_Decoder_Need_id #[.pointer none] h fun v h' => v = .int .i64 0 ∧ h' = h := by
  refine decode_Decoder_Need_run none ?_
  unfold decode_Decoder_Need_m
  exact br_b (fun _ => ⟨rfl, rfl⟩) fun e => by cases e
theorem dblock_nil (h : Heap) : Meets Tryz.prog decode_Decoder_Block_id #[.pointer none] h fun v h' => v = .tuple #[.slice none 0 0, .int .i64 1] ∧ h' = h := by
  refine decode_Decoder_Block_run none ?_
  unfold decode_Decoder_Block_m
  exact br_b (fun _ => ⟨rfl, rfl⟩) fun e => by cases e
theorem dblock_spec (a : Addr) (p : Pm) (seed : Int) (l : Sl) (syms : List (Int × Row)) (h : Heap) (hb : Box h a T_decode_Decoder (decC p seed l)) (hl : RdE EltYs h l syms) (hs : syms.length ≤ 2 ^ 18) :
    Meets Tryz.prog decode_Decoder_Block_id #[.pointer (some a)] h fun v h' => ∃ r : Sl, v = .tuple #[.slice r.ptr r.len r.cap, .int .i64 (decB p seed syms).2] ∧ Sp h h' [OwnA T_uint8 r 1 u8v (decB p seed syms).1] := by
  refine decode_Decoder_Block_run (some a) ?_
  unfold decode_Decoder_Block_m
  refine br_b (fun e => by cases e) fun _ => ?_
  refine ⟨a, rfl, p, hb.cells0 _ rfl, a, rfl, seed, hb.cell rfl, a, rfl, l, hb.cell rfl, (block_spec p seed l syms h hl hs).mono ?_⟩
  rintro _ h1 ⟨r, rfl, R1⟩
  exact ⟨(r, _), rfl, trivial, r, rfl, R1⟩
end Go.Proofs.YtkcplnfomahleaaGreatDoor
namespace Go.Proofs.YtkcplnfomahleaaGreatDoor
open Go Go.Vc Go.Proofs Wl
set_option maxRecDepth 100000
set_option maxHeartbeats 2000000 in
theorem plays_law (p0 : Pm) (a b c seed : Int) (data : Sl) (dl : Row) (ids : Sl) (il : List Int) (x : Int × Sl) (xr : Row) (turn : Int) (h : Heap) (hd : Rd h data 1 u8v dl) (hi : Rd h ids 1 intv il) (hx : Rd h x.2 1 u8v xr) :
    Meets Tryz.prog wellspringlaw14_DecoderPlays_id #[pmv p0, .int .i64 a, .int .i64 b, .int .i64 c, .int .u64 seed, .slice data.ptr data.len data.cap, .slice ids.ptr ids.len ids.cap, .agg #[.int .i64 x.1, .slice x.2.ptr x.2.len x.2.cap], .int .i64 turn] h fun v h' => v = .bool true ∧ Pres (fun b => b < h.size) h h' := by
  refine wellspringlaw14_DecoderPlays_run p0 a b c seed data ids x turn ?_
  unfold wellspringlaw14_DecoderPlays_m
  refine (Sp.refl h).boxed fun a1 h1 H1 => ?_
  refine H1.boxed fun a2 h2 H2 => ?_
  have hxl := hx.len
  refine ⟨x.2, (H2.box 1 rfl).cell rfl, br_dec (fun e0 => ?_) (fun e0 => ?_)⟩
  · refine (dwakes_spec h2).mono ?_
    rintro _ h3 ⟨rfl, R3⟩
    exact ⟨_, rfl, rfl, (H2.up R3.pres).pres⟩
  refine ⟨p0, (H2.box 0 rfl).cells0 _ rfl, (dnew_spec p0 _ h2).mono ?_⟩
  rintro v0 h3 ⟨n1, n2⟩
  have hv0 : ∃ r6 : Option Addr, v0 = .pointer r6 ∧ r6.isNone = !mayP p0 ∧ Sp h2 h3 [] := by
    cases hm : mayP p0 with
    | false => obtain ⟨e1, e2⟩ := n1 hm; exact ⟨none, e1, rfl, e2⟩
    | true => obtain ⟨a6, e1, e2⟩ := n2 hm; exact ⟨some a6, e1, rfl, e2.sel []⟩
  obtain ⟨r6, rfl, hr6, R3⟩ := hv0
  have H3 := H2.up R3.pres
  refine ⟨r6, rfl, p0, (H3.box 0 rfl).cells0 _ rfl, (pre_May_spec p0 h3).mono ?_⟩
  rintro _ h4 ⟨rfl, R4⟩
  have H4 := H3.up R4.pres
  refine ⟨_, rfl, br_not (fun e => ?_) fun _ => ?_⟩
  · rw [hr6] at e; simp at e
  refine (params_spec a b c h4).mono ?_
  rintro _ h5 ⟨rfl, R5⟩
  have H5 := H4.up R5.pres
  obtain ⟨p, hp⟩ : ∃ p, p = playP a b c := ⟨_, rfl⟩
  have hmay : mayP p = true := by rw [hp]; exact playP_may a b c
  rw [← hp]
  have hmp := (mayP_iff p).1 hmay
  refine ⟨p, rfl, H5.alloc C_ok rfl fun a10 h6 H6 => ?_⟩
  refine H6.storeAll C_ok 2 rfl rfl [.int .i64 p.1, .int .i64 p.2.1, .int .i64 p.2.2] rfl rfl rfl rfl fun h7 H7 => ?_
  refine ⟨p, (H7.box 2 rfl).cells0 _ rfl, (seed_spec p seed h7).mono ?_⟩
  rintro _ h8 ⟨s, rfl, R8⟩
  have H8 := H7.up R8.pres
  refine ⟨s, rfl, join_in ⟨p, (H8.box 2 rfl).cells0 _ rfl, p.1, (H8.box 2 rfl).cell0 rfl, p.2.2, (H8.box 2 rfl).cell rfl, ?_⟩⟩
  obtain ⟨K, hK⟩ : ∃ K : Nat, p.1 = K := ⟨p.1.toNat, by omega⟩
  obtain ⟨Hh, hH⟩ : ∃ H : Nat, p.2.1 = H := ⟨p.2.1.toNat, by omega⟩
  obtain ⟨w, hw⟩ : ∃ w : Nat, p.2.2 = w := ⟨p.2.2.toNat, by omega⟩
  have hKw : K * w ≤ 16 * 24 := Nat.mul_le_mul (by omega) (by omega)
  have eKw : p.1 * p.2.2 = ((K * w : Nat) : Int) := by rw [hK, hw, Int.natCast_mul]
  rw [eKw, i64_of_nat _ (by omega)]
  refine (data_spec data dl (K * w) h8 (Seq.up hd H8.pres) (by omega)).mono ?_
  rintro _ h9 ⟨dd, rfl, R9⟩
  have H9 := H8.comp R9
  have hxl := dataB_len dl (K * w)
  have hxc := (H9.own 3 rfl).cap
  have hxn := (H9.own 3 rfl).len
  have hb9 := H9.box 2 rfl
  refine ⟨dd, rfl, ⟨hb9.cell rfl, hb9.cell0 rfl, hb9.cell0 rfl, hb9.cell rfl, hb9.cell rfl, trivial⟩, ?_⟩
  generalize dataB dl (K * w) = d at *
  refine (new_spec p s dd d h9 (H9.seq 3 rfl fun _ => rfl) hxc).mono ?_
  rintro v h10 ⟨n1, n2⟩
  have hnew : newE p s d.length = if fullI p s (firstI p) then 0 else 8 := by rw [newE, hmay, decide_eq_true (by rw [eKw, hxl])]; rfl
  cases hf : fullI p s (firstI p) with
  | false =>
    rw [hf, if_neg (by simp)] at hnew
    obtain ⟨rfl, R10⟩ := n2 (by rw [hnew]; decide)
    rw [hnew]
    have H10 := H9.up R10.pres
    have hb10 := H10.box 2 rfl
    refine ⟨(none, 8), rfl, ⟨hb10.cell rfl, hb10.cell0 rfl, trivial⟩, join_in ?_⟩
    refine br_ne (fun _ => br_eq (fun _ => ?_) (fun e => absurd rfl e)) (fun e => absurd e (by decide))
    refine (dwakes_spec h10).mono ?_
    rintro _ h11 ⟨rfl, R11⟩
    exact ⟨_, rfl, rfl, (H10.up R11.pres).pres⟩
  | true =>
    rw [hf, if_pos rfl] at hnew
    obtain ⟨y, m, rfl, R10⟩ := n1 hnew
    have B : BlkOk p s d K Hh w (K + Hh) := ⟨hmay, hf, hK, hH, hw, rfl, by omega, by omega, by omega, by omega, by omega, by omega, by omega⟩
    have H10 := H9.comp R10
    have hb10 := H10.box 2 rfl
    refine ⟨(some y, 0), rfl, ⟨hb10.cell rfl, hb10.cell0 rfl, trivial⟩, join_in ?_⟩
    refine br_ne (fun e => absurd rfl e) fun _ => br_b (fun e => by cases e) fun _ => ?_
    refine ⟨p, hb10.cells0 _ rfl, (dnew_spec p s h10).mono ?_⟩
    rintro _ h11 ⟨_, n2⟩
    obtain ⟨D, rfl, R11⟩ := n2 hmay
    have H11 := H10.comp R11
    refine ⟨some D, rfl, br_b (fun e => by cases e) fun _ => ?_⟩
    refine (symbols_spec B y ids il 30 h11 ⟨m, H11.box 5 rfl, H11.rd2 4 rfl⟩ (Seq.up hi H11.pres) (by decide)).mono ?_
    rintro _ h12 ⟨o, rfl, R12⟩
    have H12 := H11.comp R12
    have hid := syms_mid il 30
    generalize hjl : (il.take 30).map (· % 60) = js at hid R12 H12
    have hjl36 : js.length ≤ 30 := by rw [← hjl]; simp; omega
    refine ⟨o, rfl, ?_⟩
    have hoc := (H12.eLen 7 rfl).2
    obtain ⟨ys, H12⟩ := H12.eFix 7 rfl fun _ => rfl
    have H12 := H12.sel [1, 2, 6, 7]
    obtain ⟨sy, hsy⟩ : ∃ sy, sy = trueSyms p s (midP p s d) js := ⟨_, rfl⟩
    rw [← hsy] at H12
    have hsl : sy.length = js.length := by rw [hsy]; simp [trueSyms]
    have F12 := H12.fixRd 3 rfl
    have hol := F12.1.len
    have hyl := F12.2.1
    dsimp only
    rw [Go.Vc.wrap_small ((o.len : Int) + 1) (by omega) (by omega)]
    refine (within_spec turn ((o.len : Int) + 1) h12 (by omega) (by omega)).mono ?_
    rintro _ h13 ⟨rfl, rfl⟩
    obtain ⟨k, hk⟩ : ∃ k : Nat, turn % ((o.len : Int) + 1) = k := ⟨(turn % ((o.len : Int) + 1)).toNat, by have := Int.emod_nonneg turn (show ((o.len : Int) + 1) ≠ 0 by omega); omega⟩
    have hkl : k ≤ sy.length := by have := Int.emod_lt_of_pos turn (show 0 < (o.len : Int) + 1 by omega); omega
    rw [hk]
    refine ⟨_, rfl, ?_⟩
    obtain ⟨T, hT⟩ : ∃ T : List ((Int × Sl) × (Int × Row)), T = (ys.zip sy).take k ++ [(x, (x.1, xr))] ++ (ys.zip sy).drop k := ⟨_, rfl⟩
    have hzl : (ys.zip sy).length = sy.length := by simp; omega
    have hTl : T.length ≤ 31 := by rw [hT]; simp; omega
    have hz1 : (ys.zip sy).map Prod.fst = ys := List.map_fst_zip (by omega)
    have hT1 : T.map Prod.fst = ys.take k ++ [x] ++ ys.drop k := by rw [hT]; simp only [List.map_append, List.map_take, List.map_drop, hz1]; rfl
    obtain ⟨As, hAs⟩ : ∃ As : List HP, As = [BoxA a10 T_api_Params [.int .i64 p.1, .int .i64 p.2.1, .int .i64 p.2.2], FixA EltY 2 yv o ys sy] := ⟨_, rfl⟩
    have hE : St (fun b => b < h.size) h As fun h' => ∀ t ∈ T, EltY.p h' (fun b => b < h'.size) t.1 t.2 := by
      refine St.mk' fun h' H' => ?_
      rw [hAs] at H'
      have F' := H'.fixRd 1 rfl
      have hz : ∀ t ∈ ys.zip sy, EltY.p h' (fun b => b < h'.size) t.1 t.2 := fun t ht => by
        obtain ⟨i, hi, rfl⟩ := List.mem_iff_getElem.1 ht
        rw [List.getElem_zip]
        exact F'.2.2 i _ _ (List.getElem?_eq_getElem _) (List.getElem?_eq_getElem _)
      intro t ht
      rw [hT] at ht
      rcases List.mem_append.1 ht with ht | ht
      · rcases List.mem_append.1 ht with ht | ht
        · exact hz t (List.mem_of_mem_take ht)
        · rw [List.mem_singleton.1 ht]; exact ⟨rfl, Seq.up hx H'.pres⟩
      · exact hz t (List.mem_of_mem_drop ht)
    have hB : St (fun b => b < h.size) h As fun h' => Box h' a10 T_api_Params [.int .i64 p.1, .int .i64 p.2.1, .int .i64 p.2.2] := by
      refine St.mk' fun h' H' => ?_
      rw [hAs] at H'
      exact H'.box 0 rfl
    refine join_cut (fun u h' => Sp h h' (BoxA D T_decode_Decoder (decC p s ⟨none, 0, 0⟩) :: RowsE T_api_Symbol ⟨none, 0, 0⟩ 2 yv EltY [] :: OwnA T_api_Symbol u 2 yv (T.map Prod.fst) :: As)) ?_ ?_
    · refine ⟨⟨Int.natCast_nonneg _, Int.ofNat_le.2 (by omega)⟩, x, (H12.box 0 rfl).cells0 _ rfl, ⟨Int.natCast_nonneg _, Int.ofNat_le.2 (by omega)⟩, ?_, ?_⟩
      · rw [Int.toNat_natCast]
        have H13 := H12.nil T_api_Symbol 2 yv
        refine H13.append C_ok 4 rfl eSym ⟨_, _, rfl, rfl⟩ rfl (by decide) (fun _ => rfl) ((H13.fixRd 3 rfl).1.take k (by omega)) one_yv (by simp; omega) fun u h14 H14 => ?_
        refine ⟨⟨(H14.box 0 rfl).cell0 rfl, (H14.box 0 rfl).cell rfl, trivial⟩, ?_⟩
        refine H14.litHeld C_ok yv eSym rfl [x] rfl (show 1 * 2 ≤ 2 ^ 20 by decide) rfl trivial ?_
        refine H14.push C_ok 4 rfl eSym rfl (by decide) (fun _ => rfl) one_yv x rfl (by decide) (by simp; omega) fun u2 h15 H15 => ⟨trivial, ?_⟩
        refine H15.append C_ok 4 rfl eSym ⟨_, _, rfl, rfl⟩ rfl (by decide) (fun _ => rfl) ((H15.fixRd 3 rfl).1.drop k hoc) one_yv (by simp; omega) fun u3 h16 H16 => ⟨trivial, ?_⟩
        rw [hT1, hAs]
        exact ((H16.eNil T_api_Symbol 2 yv EltY).sel [2, 5, 4, 1, 3])
      · rw [Int.toNat_natCast]
        refine H12.lit C_ok yv eSym rfl [x] rfl (show 1 * 2 ≤ 2 ^ 20 by decide) rfl fun v8 h14 H14 => ⟨trivial, ?_⟩
        have H14 := H14.nil T_api_Symbol 2 yv
        refine H14.append C_ok 5 rfl eSym ⟨_, _, rfl, rfl⟩ rfl (by decide) (fun _ => rfl) ((H14.fixRd 3 rfl).1.take k (by omega)) one_yv (by simp; omega) fun u h15 H15 => ⟨trivial, ?_⟩
        refine H15.append C_ok 5 rfl eSym ⟨_, _, rfl, rfl⟩ rfl (by decide) (fun _ => rfl) (H15.seq 4 rfl fun _ => rfl) one_yv (by simp; omega) fun u2 h16 H16 => ⟨trivial, ?_⟩
        refine H16.append C_ok 5 rfl eSym ⟨_, _, rfl, rfl⟩ rfl (by decide) (fun _ => rfl) ((H16.fixRd 3 rfl).1.drop k hoc) one_yv (by simp; omega) fun u3 h17 H17 => ⟨trivial, ?_⟩
        rw [hT1, hAs]
        exact ((H17.eNil T_api_Symbol 2 yv EltY).sel [2, 6, 5, 1, 3])
    · intro u h14 H14
      have hul := (H14.own 2 rfl).len
      rw [List.length_map] at hul
      have H15 := (H14.nil T_api_Symbol 2 yv).front1
      have H15 := ((H15.nil T_int 1 intv).front1)
      obtain ⟨Z, hZ⟩ : ∃ Z : Nat → List ((Int × Sl) × (Int × Row)), Z = fun i => (T.take i).filter fun t => symB? p t.2 := ⟨_, rfl⟩
      have hZl : ∀ i, (Z i).length ≤ 31 := fun i => by
        have := List.length_filter_le (fun t : (Int × Sl) × (Int × Row) => symB? p t.2) (T.take i)
        rw [hZ]; dsimp only; rw [List.length_take] at this; omega
      have hZm : ∀ i t, t ∈ Z i → t ∈ T ∧ symB? p t.2 = true := fun i t ht => by
        rw [hZ] at ht
        obtain ⟨h1, h2⟩ := List.mem_filter.1 ht
        exact ⟨List.mem_of_mem_take h1, h2⟩
      have hZ0 : Z 0 = [] := by rw [hZ]; simp
      have hZs : ∀ i (hi : i < T.length), Z (i + 1) = Z i ++ (if symB? p T[i].2 then [T[i]] else []) := fun i hi => by rw [hZ]; exact filter_one _ _ _ hi
      refine loop_inv (fun t : Nat × Sl × Sl × Sl => (t.2.1, t.2.2.1, (t.1 : Int))) (fun t h' => t.1 ≤ T.length ∧ Sp h h' (BoxA D T_decode_Decoder (decC p s t.2.2.2) :: RowsE T_api_Symbol t.2.2.2 2 yv EltY ((Z t.1).map Prod.snd) :: OwnA T_api_Symbol t.2.1 2 yv ((Z t.1).map Prod.fst) :: OwnA T_int t.2.2.1 1 intv ((Z t.1).map fun z => z.2.1) :: OwnA T_api_Symbol u 2 yv (T.map Prod.fst) :: As)) (fun t => T.length - t.1) (0, ⟨none, 0, 0⟩, ⟨none, 0, 0⟩, ⟨none, 0, 0⟩) rfl ⟨by simp, ?_⟩ ?_
      · rw [hZ0]; exact H15.selT 5 [2, 3, 1, 0, 4]
      rintro ⟨i, al, hv, l'⟩ h16 ⟨hi16, H16⟩
      dsimp only at *
      refine br_dec (fun e => ?_) (fun e => ?_)
      · have hi' : i < T.length := by omega
        obtain ⟨y1, y2⟩ := hE.at [_, _, _, _, _] H16 T[i] (List.getElem_mem hi')
        refine (H16.seq 4 rfl fun _ => rfl).getk (g := yv) i rfl (by simp; omega) T[i].1 (by simp) ?_
        refine H16.allocP C_ok rfl fun a39 h17 P17 H17 => ?_
        have H17 := H17.front1
        refine H17.storeAll C_ok 0 rfl rfl (yv T[i].1) rfl rfl rfl rfl fun h18 H18 => ?_
        have hyl2 := y2.len
        obtain ⟨bq, hbq⟩ : ∃ bq, bq = symB? p T[i].2 := ⟨_, rfl⟩
        refine join_cut (fun z h' => z = bq ∧ h' = h18) ?_ ?_
        · have hb18 := hB.at [_, _, _, _, _, _] H18
          refine ⟨T[i].1.1, (H18.box 0 rfl).cell0 rfl, br_dec (fun e1 => ⟨T[i].1.1, (H18.box 0 rfl).cell0 rfl, br_dec (fun e2 => ⟨T[i].1.2, (H18.box 0 rfl).cell rfl, p.2.2, hb18.cell rfl, ?_, rfl⟩) (fun e2 => ⟨?_, rfl⟩)⟩) (fun e1 => ⟨?_, rfl⟩)⟩
          · rw [hbq]; unfold symB? mayID
            rw [← y1, decide_eq_true (show 0 ≤ T[i].1.1 from e1), decide_eq_true (show T[i].1.1 ≤ 65535 from e2), hyl2]
            rw [Bool.eq_iff_iff]; simp
          · rw [hbq]; unfold symB? mayID
            rw [← y1, decide_eq_false (show ¬ T[i].1.1 ≤ 65535 from e2)]; simp
          · rw [hbq]; unfold symB? mayID
            rw [← y1, decide_eq_false (show ¬ 0 ≤ T[i].1.1 from e1)]; simp
        rintro z _ ⟨hz, rfl⟩
        have hz := hz.symm
        subst hz
        have y18 := hE.at [_, _, _, _, _, _] H18 T[i] (List.getElem_mem hi')
        refine ⟨T[i].1.1, (H18.box 0 rfl).cell0 rfl, T[i].1.2, (H18.box 0 rfl).cell rfl, ?_⟩
        have hrow : T[i].2.2.length ≤ 2 ^ 20 := by
          have h1 : T[i] ∈ T := List.getElem_mem hi'
          generalize T[i] = t at h1
          rw [hT] at h1
          have hzr : ∀ t ∈ ys.zip sy, t.2.2.length ≤ 2 ^ 20 := fun t ht => by
            have h2 : t.2 ∈ sy := (List.of_mem_zip ht).2
            have h3 := List.all_eq_true.1 (B.trueOk hid) t.2 (by rw [← hsy]; exact h2)
            have := ((sym_ok hmay).1 h3).len
            omega
          rcases List.mem_append.1 h1 with h1 | h1
          · rcases List.mem_append.1 h1 with h1 | h1
            · exact hzr t (List.mem_of_mem_take h1)
            · rw [List.mem_singleton.1 h1]; dsimp only; omega
          · exact hzr t (List.mem_of_mem_drop h1)
        have H18' := H18.selT 6 [1, 2, 0, 3, 4, 5]
        have hZi := hZl i
        refine (dadd_spec D p s T[i].1.1 l' T[i].1.2 ((Z i).map Prod.snd) T[i].2.2 H18' y18.2 hrow (by simp; omega)).mono ?_
        rintro _ h19 ⟨rfl, l2, H19⟩
        have ers : symB? p (T[i].1.1, T[i].2.2) = bq := by rw [hbq, y1]
        rw [ers] at H19
        rw [ers]
        refine ⟨_, rfl, br_not (fun e => by simp at e) fun _ => ?_⟩
        have H19b : Sp h h19 (BoxA D T_decode_Decoder (decC p s l2) :: RowsE T_api_Symbol l2 2 yv EltY ((Z (i + 1)).map Prod.snd) :: BoxA a39 T_api_Symbol (yv T[i].1) :: OwnA T_api_Symbol al 2 yv ((Z i).map Prod.fst) :: OwnA T_int hv 1 intv ((Z i).map fun z => z.2.1) :: OwnA T_api_Symbol u 2 yv (T.map Prod.fst) :: As) := by
          have e1 : (Z (i + 1)).map Prod.snd = if bq then (Z i).map Prod.snd ++ [(T[i].1.1, T[i].2.2)] else (Z i).map Prod.snd := by
            rw [hZs i hi', ← hbq]
            cases bq with
            | false => simp
            | true => simp [y1]
          rw [e1]; exact H19
        refine join_cut (fun z h' => Sp h h' (BoxA D T_decode_Decoder (decC p s l2) :: RowsE T_api_Symbol l2 2 yv EltY ((Z (i + 1)).map Prod.snd) :: OwnA T_api_Symbol z.1 2 yv ((Z (i + 1)).map Prod.fst) :: OwnA T_int z.2 1 intv ((Z (i + 1)).map fun z => z.2.1) :: OwnA T_api_Symbol u 2 yv (T.map Prod.fst) :: As)) ?_ ?_
        · cases hbb : bq with
          | false =>
            rw [hbb] at hbq
            refine br_b (fun e => by cases e) fun _ => ?_
            have e1 : Z (i + 1) = Z i := by rw [hZs i hi', ← hbq]; simp
            rw [e1] at H19b ⊢
            exact H19b.selT 6 [0, 1, 3, 4, 5]
          | true =>
            rw [hbb] at hbq
            refine br_b (fun _ => ?_) fun e => by cases e
            have e1 : Z (i + 1) = Z i ++ [T[i]] := by rw [hZs i hi', ← hbq]; simp
            have bx := H19b.box 2 rfl
            have e2 : (Z (i + 1)).map Prod.fst = (Z i).map Prod.fst ++ [T[i].1] := by rw [e1]; simp
            have e3 : (Z (i + 1)).map (fun z => z.2.1) = (Z i).map (fun z => z.2.1) ++ [T[i].1.1] := by rw [e1]; simp [y1]
            rw [e2, e3]
            have H19c := H19b.selT 6 [2, 0, 1, 3, 4, 5]
            have fin : ∀ {h' : Heap} {u2 u3 : Sl} {A1 A2 : HP}, Sp h h' (A1 :: A2 :: BoxA a39 T_api_Symbol (yv T[i].1) :: BoxA D T_decode_Decoder (decC p s l2) :: RowsE T_api_Symbol l2 2 yv EltY ((Z (i + 1)).map Prod.snd) :: OwnA T_api_Symbol u2 2 yv ((Z i).map Prod.fst ++ [T[i].1]) :: OwnA T_int u3 1 intv ((Z i).map (fun z => z.2.1) ++ [T[i].1.1]) :: OwnA T_api_Symbol u 2 yv (T.map Prod.fst) :: As) → Sp h h' (BoxA D T_decode_Decoder (decC p s l2) :: RowsE T_api_Symbol l2 2 yv EltY ((Z (i + 1)).map Prod.snd) :: OwnA T_api_Symbol u2 2 yv ((Z i).map Prod.fst ++ [T[i].1]) :: OwnA T_int u3 1 intv ((Z i).map (fun z => z.2.1) ++ [T[i].1.1]) :: OwnA T_api_Symbol u 2 yv (T.map Prod.fst) :: As) := fun H' => H'.selT 8 [3, 4, 5, 6, 7]
            refine ⟨T[i].1, bx.cells0 _ rfl, T[i].1.1, bx.cell0 rfl, ⟨?_, ?_⟩⟩
            · refine H19c.lit C_ok yv eSym rfl [T[i].1] rfl (show 1 * 2 ≤ 2 ^ 20 by decide) rfl fun v8 h20 H20 => ?_
              have H20 := H20.front1
              refine ⟨⟨(H20.box 1 rfl).cell0 rfl, trivial⟩, ?_, ?_⟩
              · refine H20.append C_ok 4 rfl eSym ⟨_, _, rfl, rfl⟩ rfl (by decide) (fun _ => rfl) (H20.seq 0 rfl fun _ => rfl) one_yv (by simp; omega) fun u2 h21 H21 => ⟨⟨(H21.box 1 rfl).cell0 rfl, trivial⟩, ?_⟩
                refine H21.litHeld C_ok intv eInt rfl [T[i].1.1] rfl (show 1 * 1 ≤ 2 ^ 20 by decide) rfl trivial ?_
                refine H21.push C_ok 5 rfl eInt rfl (by decide) (fun _ => rfl) one_int T[i].1.1 rfl (by decide) (by simp; omega) fun u3 h22 H22 => ⟨trivial, ?_⟩
                exact H22.selT 7 [2, 3, 4, 5, 6]
              · refine H20.lit C_ok intv eInt rfl [T[i].1.1] rfl (show 1 * 1 ≤ 2 ^ 20 by decide) rfl fun v9 h21 H21 => ⟨trivial, ?_⟩
                have H21 := H21.front1
                refine H21.append C_ok 5 rfl eSym ⟨_, _, rfl, rfl⟩ rfl (by decide) (fun _ => rfl) (H21.seq 1 rfl fun _ => rfl) one_yv (by simp; omega) fun u2 h22 H22 => ⟨trivial, ?_⟩
                refine H22.append C_ok 6 rfl eInt ⟨_, _, rfl, rfl⟩ rfl (by decide) (fun _ => rfl) (H22.seq 0 rfl fun _ => rfl) one_int (by simp; omega) fun u3 h23 H23 => ⟨trivial, ?_⟩
                exact fin H23
            · refine H19c.lit C_ok intv eInt rfl [T[i].1.1] rfl (show 1 * 1 ≤ 2 ^ 20 by decide) rfl fun v9 h20 H20 => ?_
              have H20 := H20.front1
              have bx20 := H20.box 1 rfl
              refine ⟨⟨bx20.cell0 rfl, bx20.cell rfl, trivial⟩, ?_⟩
              refine H20.lit C_ok yv eSym rfl [T[i].1] rfl (show 1 * 2 ≤ 2 ^ 20 by decide) rfl fun v8 h21 H21 => ⟨trivial, ?_⟩
              have H21 := H21.front1
              refine H21.append C_ok 5 rfl eSym ⟨_, _, rfl, rfl⟩ rfl (by decide) (fun _ => rfl) (H21.seq 0 rfl fun _ => rfl) one_yv (by simp; omega) fun u2 h22 H22 => ⟨trivial, ?_⟩
              refine H22.append C_ok 6 rfl eInt ⟨_, _, rfl, rfl⟩ rfl (by decide) (fun _ => rfl) (H22.seq 1 rfl fun _ => rfl) one_int (by simp; omega) fun u3 h23 H23 => ⟨trivial, ?_⟩
              exact fin H23
        rintro ⟨al', hv'⟩ h20 H20
        dsimp only at *
        have hZ1 := hZl (i + 1)
        have hb20 := hB.at [_, _, _, _, _] H20
        have eAll : ∀ {h' : Heap} {A1 A2 : HP} {Ds : List HP}, Sp h h' (Ds ++ [A1, A2, OwnA T_api_Symbol al' 2 yv ((Z (i + 1)).map Prod.fst), OwnA T_int hv' 1 intv ((Z (i + 1)).map fun z => z.2.1), OwnA T_api_Symbol u 2 yv (T.map Prod.fst)] ++ As) → RdE EltYs h' al' ((Z (i + 1)).map Prod.snd) := fun {h' A1 A2 Ds} H' => by
          refine EltL.zip _ (H'.seq (e := T_api_Symbol) (Ds.length + 2) (by rw [List.append_assoc, List.getElem?_append_right (by omega), Nat.add_sub_cancel_left]; rfl) fun _ => rfl) fun t ht => hE.at _ H' t (hZm _ _ ht).1
        refine join_cut (fun _ h' => Sp h h' (BoxA D T_decode_Decoder (decC p s l2) :: RowsE T_api_Symbol l2 2 yv EltY ((Z (i + 1)).map Prod.snd) :: OwnA T_api_Symbol al' 2 yv ((Z (i + 1)).map Prod.fst) :: OwnA T_int hv' 1 intv ((Z (i + 1)).map fun z => z.2.1) :: OwnA T_api_Symbol u 2 yv (T.map Prod.fst) :: As)) ?_ ?_
        · refine ⟨p, hb20.cells0 _ rfl, p, hb20.cells0 _ rfl, ?_⟩
          refine (dneed_spec D p s l2 ((Z (i + 1)).map Prod.snd) h20 (H20.box 0 rfl) (H20.eRd 1 rfl fun _ => rfl) (by simp; omega)).mono ?_
          rintro _ h21 ⟨rfl, R21⟩
          have H21 := H20.up R21.pres
          have hb21 := hB.at [_, _, _, _, _] H21
          refine ⟨_, rfl, ⟨hb21.cell0 rfl, hb21.cell rfl, hb21.cell rfl, hb21.cell0 rfl, hb21.cell rfl, hb21.cell rfl, trivial⟩, ?_⟩
          refine (pre_Cols_spec p h21).mono ?_
          rintro _ h22 ⟨rfl, R22⟩
          have H22 := H21.up R22.pres
          have hb22 := hB.at [_, _, _, _, _] H22
          refine ⟨_, rfl, ⟨hb22.cell0 rfl, hb22.cell rfl, hb22.cell rfl, trivial⟩, ?_⟩
          refine (gf_sys_Rank_spec p s hv' _ h22 (H22.seq 3 rfl fun _ => rfl) (by simp; omega)).mono ?_
          rintro _ h23 ⟨rfl, R23⟩
          have H23 := H22.up R23.pres
          refine ⟨_, rfl, trivial, ?_⟩
          have hr1 := rankI_le p s ((Z (i + 1)).map fun z => z.2.1)
          have hr2 := colsP_eq hmay
          rw [List.map_map]
          refine br_ne (fun e => absurd ?_ e) fun _ => H23
          rw [Go.Vc.wrap_small _ (by omega) (by omega)]; rfl
        rintro _ h21 H21
        have next : ∀ h', Sp h h' (BoxA D T_decode_Decoder (decC p s l2) :: RowsE T_api_Symbol l2 2 yv EltY ((Z (i + 1)).map Prod.snd) :: OwnA T_api_Symbol al' 2 yv ((Z (i + 1)).map Prod.fst) :: OwnA T_int hv' 1 intv ((Z (i + 1)).map fun z => z.2.1) :: OwnA T_api_Symbol u 2 yv (T.map Prod.fst) :: As) → ∃ t' : Nat × Sl × Sl × Sl, ((⟨al'.ptr, al'.len, al'.cap⟩ : Sl), (⟨hv'.ptr, hv'.len, hv'.cap⟩ : Sl), IntKind.wrap .i64 ((i : Int) + 1)) = (t'.2.1, t'.2.2.1, (t'.1 : Int)) ∧ (t'.1 ≤ T.length ∧ Sp h h' (BoxA D T_decode_Decoder (decC p s t'.2.2.2) :: RowsE T_api_Symbol t'.2.2.2 2 yv EltY ((Z t'.1).map Prod.snd) :: OwnA T_api_Symbol t'.2.1 2 yv ((Z t'.1).map Prod.fst) :: OwnA T_int t'.2.2.1 1 intv ((Z t'.1).map fun z => z.2.1) :: OwnA T_api_Symbol u 2 yv (T.map Prod.fst) :: As)) ∧ T.length - t'.1 < T.length - i := fun h' H' =>
          ⟨(i + 1, al', hv', l2), by dsimp only; rw [Go.Vc.wrap_small _ (by omega) (by omega)]; rfl, ⟨by dsimp only; omega, H'⟩, by dsimp only; omega⟩
        refine join_cut (fun _ h' => h' = h21) ⟨by decide, br_b (fun _ => rfl) fun _ => rfl⟩ ?_
        rintro bk _ rfl
        refine br_b (fun _ => ?_) fun _ => next _ H21
        refine (dblock_spec D p s l2 ((Z (i + 1)).map Prod.snd) _ (H21.box 0 rfl) (H21.eRd 1 rfl fun _ => rfl) (by simp; omega)).mono ?_
        rintro _ h22 ⟨r1, rfl, R22⟩
        have H22 := H21.comp1 R22
        refine ⟨(r1, _), rfl, p, (hB.at [_, _, _, _, _, _] H22).cells0 _ rfl, ?_⟩
        refine (refDecode_spec p s al' ((Z (i + 1)).map Prod.snd) h22 (eAll (Ds := [_]) H22) (by simp; omega) fun t ht => ?_).mono ?_
        · obtain ⟨z, hz, rfl⟩ := List.mem_map.1 ht
          have := ((sym_ok hmay).1 (hZm _ _ hz).2).len
          omega
        rintro _ h23 ⟨r2, rfl, R23⟩
        have H23 := H22.comp1 R23
        refine ⟨(r2, _), rfl, br_ne (fun e => absurd rfl e) fun _ => ?_⟩
        refine (sameB_spec r1 r2 _ _ h23 (H23.seq 1 rfl fun _ => rfl) (H23.seq 0 rfl fun _ => rfl) (dec_len p s _)).mono ?_
        rintro _ h24 ⟨rfl, rfl⟩
        refine ⟨_, rfl, br_not (fun e => by simp at e) fun _ => ?_⟩
        exact next _ (H23.selT 7 [2, 3, 4, 5, 6])
      · refine (dblock_nil h16).mono ?_
        rintro _ h17 ⟨rfl, rfl⟩
        refine ⟨(⟨none, 0, 0⟩, 1), rfl, br_eq (fun _ => br_eq (fun _ => ?_) fun e => absurd rfl e) fun e => absurd rfl e⟩
        refine (dneed_nil h17).mono ?_
        rintro _ h18 ⟨rfl, rfl⟩
        refine ⟨0, rfl, br_eq (fun _ => ?_) fun e => absurd rfl e⟩
        refine (dadd_nil h18 1).mono ?_
        rintro _ h19 ⟨rfl, R19⟩
        refine ⟨_, rfl, br_not (fun _ => ?_) fun e => by cases e⟩
        refine (dwakes_spec h19).mono ?_
        rintro _ h20 ⟨rfl, R20⟩
        exact ⟨_, rfl, rfl, ((H16.up R19.pres).up R20.pres).pres⟩
end Go.Proofs.YtkcplnfomahleaaGreatDoor
