/- Part of the proofs that wellspringlaw14's laws answer true whatever the input reads, and leave it as it was; no condition. -/
import Derived.Test.YtkcplnfomahleaaGreatDoorKB
import Derived.Test.YtkcplnfomahleaaGreatDoorKA
set_option linter.unusedVariables false
set_option linter.unusedSimpArgs false
namespace Wl
def symB? (p : Int × Int × Int) (x : Int × Row) : Bool := mayID x.1 && decide ((x.2.length : Int) = p.2.2)
theorem sym_ok {p : Int × Int × Int} {x : Int × Row} (hm : mayP p = true) : symB? p x = true ↔ SymOk p x := by
  have := (mayP_iff p).1 hm
  unfold symB?
  rw [Bool.and_eq_true, decide_eq_true_iff]
  exact ⟨fun ⟨a, b⟩ => ⟨a, by omega⟩, fun h => ⟨h.id, by have := h.len; omega⟩⟩
def outB (p : Int × Int × Int) (seed : Int) (X : Mat) (i : Nat) : Row := (List.range i).flatMap fun j : Nat => symB p.2.2.toNat X (colsI (colsP p).toNat seed (j : Int))
theorem outB_succ (p : Int × Int × Int) (seed : Int) (X : Mat) (i : Nat) : outB p seed X (i + 1) = outB p seed X i ++ symB p.2.2.toNat X (colsI (colsP p).toNat seed (i : Int)) := by
  unfold outB; rw [List.range_succ, List.flatMap_append]; simp
open Classical in
noncomputable def decB (p : Int × Int × Int) (seed : Int) (l : List (Int × Row)) : Row × Int :=
  if mayP p && l.all (symB? p) then
    if fullI p seed (l.map Prod.fst) then
      if calmB (colsP p).toNat (matI p seed (l.map Prod.fst)) (midR p l) then (outB p seed (solB (colsP p).toNat (matI p seed (l.map Prod.fst)) (midR p l)) p.1.toNat, 0) else ([], 10)
    else ([], 9)
  else ([], 1)
end Wl
namespace Go.Proofs.YtkcplnfomahleaaGreatDoor
open Go Go.Vc Go.Proofs Wl
set_option maxRecDepth 100000
theorem dright_spec (p : Pm) (x : Int × Sl) (l : Row) (h : Heap) (hx : Rd h x.2 1 u8v l) : Meets Tryz.prog decode_right_id #[pmv p, .agg #[.int .i64 x.1, .slice x.2.ptr x.2.len x.2.cap]] h fun v h' => v = .bool (symB? p (x.1, l)) ∧ Sp h h' [] := by
  refine decode_right_run p x ?_
  unfold decode_right_m
  refine (Sp.refl h).boxed fun a1 h1 H1 => ?_
  refine H1.boxed fun a2 h2 H2 => ?_
  have hl := hx.len
  refine ⟨x.1, (H2.box 1 rfl).cell0 rfl, br_dec (fun e1 => ?_) (fun e1 => ?_)⟩
  · refine ⟨x.1, (H2.box 1 rfl).cell0 rfl, br_dec (fun e2 => ?_) (fun e2 => ?_)⟩
    · refine ⟨x.2, (H2.box 1 rfl).cell rfl, p.2.2, (H2.box 0 rfl).cell rfl, ?_, .zip H2.pres⟩
      congr 1
      unfold symB? mayID
      rw [decide_eq_true (show 0 ≤ x.1 from e1), decide_eq_true (show x.1 ≤ 65535 from e2), hl]
      rw [Bool.eq_iff_iff]; simp
    · refine ⟨?_, .zip H2.pres⟩
      unfold symB? mayID
      rw [decide_eq_false (show ¬ x.1 ≤ 65535 from e2)]; simp
  · refine ⟨?_, .zip H2.pres⟩
    unfold symB? mayID
    rw [decide_eq_false (show ¬ 0 ≤ x.1 from e1)]; simp
theorem block1_spec (p : Pm) (a1 : Addr) (x : Int × Sl) (l : Row) (h : Heap) (hb : Box h a1 T_api_Params [.int .i64 p.1, .int .i64 p.2.1, .int .i64 p.2.2]) (hx : Rd h x.2 1 u8v l) : Meets Tryz.prog decode_Block_1_id #[.agg #[.int .i64 x.1, .slice x.2.ptr x.2.len x.2.cap], .pointer (some a1)] h fun v h' => v = .bool (!symB? p (x.1, l)) ∧ Sp h h' [] := by
  refine decode_Block_1_run x a1 ?_
  unfold decode_Block_1_m
  refine (Sp.refl h).boxed fun a2 h1 H1 => ?_
  refine ⟨p, (hb.pres H1.pres hb.lt).cells0 _ rfl, x, (H1.box 0 rfl).cells0 _ rfl, ?_⟩
  refine (dright_spec p x l h1 (Seq.up hx H1.pres)).mono ?_
  rintro _ h2 ⟨rfl, R2⟩
  exact ⟨_, rfl, rfl, .zip (H1.up R2.pres).pres⟩
theorem anyBad_spec (p : Pm) (a1 : Addr) (l : Sl) (syms : List (Int × Row)) (h : Heap) (hb : Box h a1 T_api_Params [.int .i64 p.1, .int .i64 p.2.1, .int .i64 p.2.2]) (hl : RdE EltYs h l syms) (hs : syms.length ≤ 2 ^ 30) : Meets Tryz.prog slices_ContainsFunc_api_Symbol_api_Symbol_id #[.slice l.ptr l.len l.cap, .func (.func decode_Block_1_id) #[] #[.pointer (some a1)]] h fun v h' => v = .bool (!syms.all (symB? p)) ∧ Sp h h' [] := by
  refine slices_ContainsFunc_api_Symbol_api_Symbol_run l (decode_Block_1_id, #[.pointer (some a1)]) ?_
  unfold slices_ContainsFunc_api_Symbol_api_Symbol_m
  refine (slices_IndexFunc_api_Symbol_api_Symbol_run l (decode_Block_1_id, #[.pointer (some a1)]) (R := fun v h' => (∃ i : Int, v = .int .i64 i ∧ (decide (i ≥ 0) = !syms.all (symB? p))) ∧ Sp h h' []) ?_).mono ?_
  · unfold slices_IndexFunc_api_Symbol_api_Symbol_m
    obtain ⟨ys, q1, q2, q3⟩ := EltL.heads hl
    have hll := EltL.len hl
    refine loop_inv (fun i : Nat => (i : Int)) (fun i h' => i ≤ syms.length ∧ (syms.take i).all (symB? p) = true ∧ Sp h h' []) (fun i => syms.length - i) 0 rfl ⟨by omega, by simp, Sp.refl h⟩ ?_
    rintro i h1 ⟨hi, hall, H1⟩
    refine br_dec (fun e => ?_) (fun e => ?_)
    · have hi' : i < syms.length := by omega
      obtain ⟨y1, y2⟩ := q3 i (by omega) hi'
      refine (Seq.up q1 H1.pres).getk (g := yv) i rfl (by omega) (ys[i]'(by omega)) rfl ?_
      refine dyn_in (by rfl) ?_
      refine (block1_spec p a1 (ys[i]'(by omega)) syms[i].2 h1 (hb.pres H1.pres hb.lt) (Seq.up y2 H1.pres)).mono ?_
      rintro _ h2 ⟨rfl, R2⟩
      have exy : ((ys[i]'(by omega)).1, syms[i].2) = syms[i] := by rw [y1]
      rw [exy]
      refine ⟨_, rfl, br_not (fun e2 => ?_) (fun e2 => ?_)⟩
      · refine ⟨⟨i, rfl, ?_⟩, H1.up R2.pres⟩
        rw [decide_eq_true (show (i : Int) ≥ 0 by omega)]
        have : syms.all (symB? p) = false := List.all_eq_false.2 ⟨_, List.getElem_mem hi', by simpa using e2⟩
        rw [this]; rfl
      · refine ⟨i + 1, by rw [Go.Vc.wrap_small _ (by omega) (by omega)]; rfl, ⟨by omega, ?_, H1.up R2.pres⟩, by omega⟩
        rw [take_snoc _ _ hi', List.all_append, hall]; simpa using e2
    · refine ⟨⟨-1, rfl, ?_⟩, H1⟩
      rw [List.take_of_length_le (by omega)] at hall
      rw [hall]; rfl
  · rintro _ h1 ⟨⟨i, rfl, hi⟩, R1⟩
    exact ⟨i, rfl, by rw [hi], R1⟩
theorem ids_spec' (l : Sl) (syms : List (Int × Row)) (h : Heap) (hl : RdE EltYs h l syms) (hs : syms.length ≤ 2 ^ 30) : Meets Tryz.prog decode_ids_id #[.slice l.ptr l.len l.cap] h fun v h' => ∃ r : Sl, v = .slice r.ptr r.len r.cap ∧ Sp h h' [OwnA T_int r 1 intv (syms.map Prod.fst)] := by
  refine decode_ids_run l ?_
  unfold decode_ids_m
  obtain ⟨ys, q1, q2, q3⟩ := EltL.heads hl
  have hll := EltL.len hl
  refine loop_inv (fun t : Nat × Sl => (t.2, (t.1 : Int))) (fun t h' => t.1 ≤ syms.length ∧ Sp h h' [OwnA T_int t.2 1 intv ((syms.take t.1).map Prod.fst)]) (fun t => syms.length - t.1) (0, ⟨none, 0, 0⟩) rfl ⟨by simp, (Sp.refl h).nil T_int 1 intv⟩ ?_
  rintro ⟨i, o⟩ h1 ⟨hi, H1⟩
  dsimp only at *
  refine br_dec (fun e => ?_) (fun e => ?_)
  · have hi' : i < syms.length := by omega
    obtain ⟨y1, y2⟩ := q3 i (by omega) hi'
    refine (Seq.up q1 H1.pres).getk (g := yv) i rfl (by omega) (ys[i]'(by omega)) rfl ?_
    refine H1.alloc C_ok rfl fun a h2 H2 => ?_
    refine H2.storeAll C_ok 1 rfl rfl (yv (ys[i]'(by omega))) rfl rfl rfl rfl fun h3 H3 => ?_
    refine ⟨(ys[i]'(by omega)).1, (H3.box 1 rfl).cell0 rfl, ?_⟩
    refine H3.push C_ok 0 rfl eInt rfl (by decide) (fun _ => rfl) one_int (ys[i]'(by omega)).1 rfl (by decide) (by simp; omega) fun o' h4 H4 => ?_
    refine ⟨(i + 1, o'), by dsimp only; rw [Go.Vc.wrap_small _ (by omega) (by omega)]; rfl, ⟨by dsimp only; omega, ?_⟩, by dsimp only; omega⟩
    dsimp only
    rw [take_snoc _ _ hi', List.map_append]
    rw [y1] at H4
    exact H4.sel [0]
  · have : i = syms.length := by omega
    subst this
    rw [List.take_length] at H1
    exact ⟨o, rfl, H1⟩
theorem xor_loop {B : Blocks} {h0 h : Heap} {As : List HP} (src dst : Sl) (ls ld : Row) (H : SpB B h0 h (OwnA T_uint8 dst 1 u8v ld :: As)) (hS : St B h0 As fun h => Rd h src 1 u8v ls)
    (hl : ls.length = ld.length) (hs : ls.length ≤ 2 ^ 30) {K : Heap → Prop} (hk : ∀ h', SpB B h0 h' (OwnA T_uint8 dst 1 u8v (addB 1 ls ld) :: As) → K h') :
    LoopM (σ := Int) (fun s23 K5 h13 =>
  Br (decide (s23 < ((src.len : Nat) : Int)))
  (∃ a24 : Addr, (src.ptr = some a24 ∧ 0 ≤ s23 ∧ s23 < ((src.len : Nat) : Int)) ∧
  ∃ x25 : Int, cellOf h13 (a24.add (s23.toNat * 1)) = some (.int .u8 x25) ∧
  ∃ a26 : Addr, (dst.ptr = some a26 ∧ 0 ≤ s23 ∧ s23 < ((dst.len : Nat) : Int)) ∧
  ∃ x27 : Int, cellOf h13 (a26.add (s23.toNat * 1)) = some (.int .u8 x27) ∧
  ∃ a28 : Addr, (dst.ptr = some a28 ∧ 0 ≤ s23 ∧ s23 < ((dst.len : Nat) : Int)) ∧
  Runs Tryz.prog (Instr.storeAt T_uint8 (.pointer (some (a28.add (s23.toNat * 1)))) (.int .u8 (IntKind.wrap .u8 ((BitVec.ofInt (IntKind.bits .u8) x27 ^^^ (BitVec.ofInt (IntKind.bits .u8) x25)).toNat : Nat)))) h13 fun _ h14 =>
  K5 (IntKind.wrap .i64 (s23 + (1 : Int))) h14) (K h13)) (0 : Int) h := by
  have hsl : src.len = ls.length := (hS.at [OwnA T_uint8 dst 1 u8v ld] H).len
  refine loop_inv (fun k : Nat => (k : Int)) (fun k h' => k ≤ ls.length ∧ SpB B h0 h' (OwnA T_uint8 dst 1 u8v (List.zipWith (fun x y => y ^^^ x) (ls.take k) (ld.take k) ++ ld.drop k) :: As)) (fun k => ls.length - k) 0 rfl ⟨by omega, by simpa using H⟩ ?_
  rintro k h1 ⟨hk1, H1⟩
  have S3 := hS.at [_] H1
  refine br_dec (fun e => ?_) (fun e => ?_)
  · have hk' : k < ls.length := by omega
    have hzl : (List.zipWith (fun x y => y ^^^ x) (ls.take k) (ld.take k)).length = k := by simp; omega
    have hll : (List.zipWith (fun x y => y ^^^ x) (ls.take k) (ld.take k) ++ ld.drop k).length = ld.length := by rw [List.length_append, hzl, List.length_drop]; omega
    refine S3.get1 k rfl hk' _ rfl ?_
    have hval : (List.zipWith (fun x y => y ^^^ x) (ls.take k) (ld.take k) ++ ld.drop k)[k]'(by omega) = ld[k] := by
      rw [List.getElem_append_right (by omega)]; simp [hzl]
    refine (H1.seq 0 rfl fun _ => rfl).get1 k rfl (by omega) _ rfl ?_
    rw [hval, xor_u8]
    refine H1.set C_ok 0 rfl (fun _ => rfl) rfl k rfl (by omega) _ rfl rfl rfl fun h3 H3 => ?_
    rw [List.set_cons_zero, zip_half_set hl (by omega)] at H3
    exact ⟨k + 1, by rw [Go.Vc.wrap_small _ (by omega) (by omega)]; rfl, ⟨by omega, H3⟩, by omega⟩
  · have : k = ls.length := by omega
    subst this
    rw [List.take_of_length_le (Nat.le_refl _), List.take_of_length_le (by omega), List.drop_of_length_le (by omega), List.append_nil, ← add1_eq] at H1
    exact hk h1 H1
theorem block_spec (p : Pm) (seed : Int) (l : Sl) (syms : List (Int × Row)) (h : Heap) (hl : RdE EltYs h l syms) (hsl : syms.length ≤ 2 ^ 18) :
    Meets Tryz.prog decode_Block_id #[pmv p, .int .u32 seed, .slice l.ptr l.len l.cap] h fun v h' => ∃ r : Sl, v = .tuple #[.slice r.ptr r.len r.cap, .int .i64 (decB p seed syms).2] ∧ Sp h h' [OwnA T_uint8 r 1 u8v (decB p seed syms).1] := by
  refine decode_Block_run p seed l ?_
  unfold decode_Block_m
  refine (Sp.refl h).boxed fun a1 h1 H1 => ?_
  have bad : ∀ {h' : Heap} (e : Int), Sp h h' [BoxA a1 T_api_Params [.int .i64 p.1, .int .i64 p.2.1, .int .i64 p.2.2]] → decB p seed syms = ([], e) → ∃ r : Sl, (.tuple #[.slice none 0 0, .int .i64 e] : Value) = .tuple #[.slice r.ptr r.len r.cap, .int .i64 (decB p seed syms).2] ∧ Sp h h' [OwnA T_uint8 r 1 u8v (decB p seed syms).1] := fun e H' he => by
    rw [he]
    exact ⟨⟨none, 0, 0⟩, rfl, (H'.nil T_uint8 1 u8v).sel [1]⟩
  refine join_in ⟨p, (H1.box 0 rfl).cells0 _ rfl, ?_⟩
  refine (pre_May_spec p h1).mono ?_
  rintro _ h2 ⟨rfl, R2⟩
  have H2 := H1.up R2.pres
  refine ⟨_, rfl, br_not (fun e => ?_) (fun hmay => ?_)⟩
  · exact bad 1 H2 (by unfold decB; rw [e]; rfl)
  refine (anyBad_spec p a1 l syms h2 (H2.box 0 rfl) (RdE.up hl H2.pres) (by omega)).mono ?_
  rintro _ h3 ⟨rfl, R3⟩
  have H3 := H2.up R3.pres
  refine ⟨_, rfl, br_not (fun e => ?_) (fun hall => ?_)⟩
  · exact bad 1 H3 (by unfold decB; rw [hmay, e]; rfl)
  refine join_in ⟨p, (H3.box 0 rfl).cells0 _ rfl, ?_⟩
  refine (ids_spec' l syms h3 (RdE.up hl H3.pres) (by omega)).mono ?_
  rintro _ h4 ⟨r, rfl, R4⟩
  have H4 := H3.comp R4
  have hb4 := H4.box 0 rfl
  refine ⟨r, rfl, ⟨hb4.cell0 rfl, hb4.cell rfl, hb4.cell rfl, trivial⟩, ?_⟩
  refine (full_spec p seed r (syms.map Prod.fst) h4 (H4.seq 1 rfl fun _ => rfl) (by simp; omega)).mono ?_
  rintro _ h5 ⟨rfl, R5⟩
  have H5 : Sp h h5 [BoxA a1 T_api_Params [.int .i64 p.1, .int .i64 p.2.1, .int .i64 p.2.2]] := (H4.up R5.pres).sel [0]
  refine ⟨_, rfl, trivial, br_not (fun e => ?_) (fun hfull => ?_)⟩
  · exact bad 9 H5 (by unfold decB; rw [hmay, hall, e]; rfl)
  have hok : ∀ x ∈ syms, SymOk p x := fun x hx => (sym_ok hmay).1 (List.all_eq_true.1 hall x hx)
  have hmp := (mayP_iff p).1 hmay
  have hcp := colsP_eq hmay
  have hr : rankB (matI p seed (syms.map Prod.fst)) = (colsP p).toNat := by
    have := hfull
    unfold fullI rankI at this
    rw [hmay] at this
    simp at this; omega
  refine ⟨p, (H5.box 0 rfl).cells0 _ rfl, ?_⟩
  refine (mid_spec p seed l syms (colsP p).toNat p.2.2.toNat h5 (RdE.up hl H5.pres) hmay hok rfl rfl hsl hr).mono ?_
  rintro _ h6 (⟨hc, m, rfl, R6⟩ | ⟨hc, rfl, R6⟩)
  rotate_left
  · refine ⟨(⟨none, 0, 0⟩, 10), rfl, br_ne (fun _ => bad 10 (H5.up R6.pres) ?_) (fun e => absurd e (by decide))⟩
    unfold decB; rw [hmay, hall, hfull, if_neg hc]; rfl
  refine ⟨(m, 0), rfl, br_ne (fun e => absurd rfl e) (fun _ => ?_)⟩
  obtain ⟨X, hX⟩ : ∃ X, X = solB (colsP p).toNat (matI p seed (syms.map Prod.fst)) (midR p syms) := ⟨_, rfl⟩
  have hdec : decB p seed syms = (outB p seed X p.1.toNat, 0) := by unfold decB; rw [hmay, hall, hfull, if_pos hc, hX]; rfl
  have hBe : evenB p.2.2.toNat (midR p syms) := fun x hx => by
    rcases List.mem_append.1 hx with hx | hx
    · rw [(List.mem_replicate.1 hx).2]; simp [zeroB]
    · obtain ⟨y, hy, rfl⟩ := List.mem_map.1 hx; exact (hok y hy).len
  have hAl : (matI p seed (syms.map Prod.fst)).length = (midR p syms).length := by
    rw [← eqs_A (n := (colsP p).toNat) (seed := seed) hmay rfl hok, ← eqs_B (n := (colsP p).toNat) (seed := seed) (p := p) (l := syms) rfl]; exact all_len
  obtain ⟨hXl, hXe⟩ := sol_len hAl (matI_even p seed _) hBe hr
  rw [← hX] at R6 hXl hXe
  have H6 := (H5.comp R6).rowsE 1 rfl
  obtain ⟨mr, H7⟩ := SpB.eFix H6 1 rfl fun _ => rfl
  have hml := (H7.fixRd 1 rfl).1.len
  have hmr := (H7.fixRd 1 rfl).2.1
  refine ⟨p.1, (H7.box 0 rfl).cell0 rfl, ?_⟩
  rw [hdec]
  have H8 : Sp h h6 [OwnA T_uint8 ⟨none, 0, 0⟩ 1 u8v [], BoxA a1 T_api_Params [.int .i64 p.1, .int .i64 p.2.1, .int .i64 p.2.2], FixA (EltS 1 u8v) 1 slv m mr X] := (H7.nil T_uint8 1 u8v).sel [2, 0, 1]
  have hsym : ∀ j : Nat, (symB p.2.2.toNat X (colsI (colsP p).toNat seed (j : Int))).length = p.2.2.toNat := fun j => sym_len hXe hXl fun x hx => colsI_mem (by omega) (by omega) hx
  have houtl : ∀ i, (outB p seed X i).length = i * p.2.2.toNat := fun i => by
    induction i with
    | zero => simp [outB]
    | succ i ih => rw [outB_succ, List.length_append, ih, hsym, Nat.succ_mul]
  refine loop_inv (fun t : Nat × Sl => (t.2, (t.1 : Int))) (fun t h' => t.1 ≤ p.1.toNat ∧ Sp h h' [OwnA T_uint8 t.2 1 u8v (outB p seed X t.1), BoxA a1 T_api_Params [.int .i64 p.1, .int .i64 p.2.1, .int .i64 p.2.2], FixA (EltS 1 u8v) 1 slv m mr X]) (fun t => p.1.toNat - t.1) (0, ⟨none, 0, 0⟩) rfl ⟨by omega, by simpa [outB] using H8⟩ ?_
  rintro ⟨i, o⟩ h8 ⟨hi, H8⟩
  dsimp only at *
  refine br_dec (fun e => ?_) (fun e => ?_)
  · have hi' : i < p.1.toNat := by omega
    refine ⟨p.2.2, (H8.box 1 rfl).cell rfl, ?_⟩
    refine H8.make C_ok u8v eU8 (by decide) 0 rfl rfl p.2.2.toNat p.2.2.toNat (by omega) (by omega) (Nat.le_refl _) (by omega) fun sm h9 _ _ H9 => ?_
    refine ⟨p, (H9.box 1 rfl).cells0 _ rfl, (cols_spec p seed (i : Int) h9).mono ?_⟩
    rintro _ h10 ⟨c, rfl, R10⟩
    have hmi : (mayP p && mayID (i : Int)) = true := by rw [hmay]; unfold mayID; simp; omega
    rw [hmi, if_pos rfl] at R10
    have H10 := (H9.comp R10).sel [3, 0, 1, 2, 4]
    refine ⟨c, rfl, ?_⟩
    generalize hcs : colsI (colsP p).toNat seed (i : Int) = cs at H10 R10
    have hcin : ∀ x ∈ cs, 0 ≤ x ∧ x < ((colsP p).toNat : Int) := fun x hx => colsI_mem (by omega) (by omega) (hcs ▸ hx)
    have hcl : cs.length ≤ 20 := by have := colsI_len (n := (colsP p).toNat) (by omega) (by omega) seed (i : Int); rw [hcs] at this; omega
    have hcn := (H10.own 4 rfl).len
    refine loop_inv (fun j : Nat => (j : Int)) (fun j h' => j ≤ cs.length ∧ Sp h h' [OwnA T_uint8 sm 1 u8v (symB p.2.2.toNat X (cs.take j)), OwnA T_uint8 o 1 u8v (outB p seed X i), BoxA a1 T_api_Params [.int .i64 p.1, .int .i64 p.2.1, .int .i64 p.2.2], FixA (EltS 1 u8v) 1 slv m mr X, OwnA T_int c 1 intv cs]) (fun j => cs.length - j) 0 rfl ⟨by omega, H10⟩ ?_
    rintro j h11 ⟨hj, H11⟩
    have htl := sym_take_len hXe hXl hcin j hj
    refine br_dec (fun e2 => ?_) (fun e2 => ?_)
    · have hj' : j < cs.length := by omega
      have hcc := hcin _ (List.getElem_mem hj')
      refine (H11.seq 4 rfl fun _ => rfl).get1 j rfl hj' _ rfl ?_
      have hcX : cs[j].toNat < X.length := by omega
      refine (H11.fixRd 3 rfl).1.getH cs[j].toNat (by omega) (by omega) ?_
      have hXw : (X[cs[j].toNat]'hcX).length = p.2.2.toNat := hXe _ (List.getElem_mem _)
      refine xor_loop (mr[cs[j].toNat]'(by omega)) sm (X[cs[j].toNat]'hcX) _ H11 (St.mk' fun h' H' => Fix.row (H'.fixRd 2 rfl) hcX) (by rw [hXw, htl]) (by omega) fun h12 H12 => ?_
      refine ⟨j + 1, by rw [Go.Vc.wrap_small _ (by omega) (by omega)]; rfl, ⟨by omega, ?_⟩, by omega⟩
      rw [take_snoc _ _ hj', sym_snoc, row_get hcX]
      exact H12
    · have hje : j = cs.length := by omega
      subst hje
      rw [List.take_length] at H11 htl
      refine H11.append C_ok 1 rfl eU8 e_u8sl rfl (by decide) (fun _ => rfl) (H11.seq 0 rfl fun _ => rfl) one_u8 (by rw [houtl, htl]; have : i * p.2.2.toNat ≤ 16 * 24 := Nat.mul_le_mul (by omega) (by omega); omega) fun o' h12 H12 => ?_
      refine ⟨(i + 1, o'), by dsimp only; rw [Go.Vc.wrap_small _ (by omega) (by omega)]; rfl, ⟨by dsimp only; omega, ?_⟩, by dsimp only; omega⟩
      dsimp only
      rw [outB_succ, hcs]
      exact H12.sel [1, 2, 3]
  · have hie : i = p.1.toNat := by omega
    subst hie
    exact ⟨o, rfl, H8.sel [0]⟩
end Go.Proofs.YtkcplnfomahleaaGreatDoor
namespace Wl
section
variable {p : Int × Int × Int} {seed : Int} {d : Row} {K H w n : Nat}
def trueSyms (p : Int × Int × Int) (seed : Int) (X : Mat) (ids : List Int) : List (Int × Row) := ids.map fun i => (i, symB p.2.2.toNat X (colsI (colsP p).toNat seed i))
theorem BlkOk.size (B : BlkOk p seed d K H w n) : p.2.2.toNat = w := by have := B.s; omega
theorem true_ids (X : Mat) (ids : List Int) : (trueSyms p seed X ids).map Prod.fst = ids := by simp [trueSyms, List.map_map, Function.comp_def]
theorem BlkOk.trueOk (B : BlkOk p seed d K H w n) {ids : List Int} (hid : ∀ i ∈ ids, mayID i = true) : (trueSyms p seed (midP p seed d) ids).all (symB? p) = true := List.all_eq_true.2 fun x hx => by
  obtain ⟨i, hi, rfl⟩ := List.mem_map.1 hx
  refine (sym_ok B.may).2 ⟨hid i hi, ?_⟩
  dsimp only
  rw [B.size, B.colsN]; exact B.symLen i
theorem flatMap_cg {α β : Type} {f g : α → List β} : ∀ (l : List α), (∀ x ∈ l, f x = g x) → l.flatMap f = l.flatMap g
  | [], _ => rfl
  | a :: l, h => by rw [List.flatMap_cons, List.flatMap_cons, h a (by simp), flatMap_cg l fun x hx => h x (by simp [hx])]
theorem flat_take (d : Row) (w : Nat) : ∀ i, i * w ≤ d.length → (List.range i).flatMap (Go.Vc.pcL d w) = d.take (i * w)
  | 0, _ => by simp
  | i + 1, h => by
    have e : (i + 1) * w = i * w + w := Nat.succ_mul i w
    rw [List.range_succ, List.flatMap_append, flat_take d w i (by omega), e, List.take_add]
    simp [Go.Vc.pcL]
theorem BlkOk.out (B : BlkOk p seed d K H w n) : outB p seed (midP p seed d) p.1.toNat = d := by
  have hK : p.1.toNat = K := by have := B.k; omega
  unfold outB
  rw [hK, B.size, B.colsN]
  have : (List.range K).flatMap (fun j : Nat => symB w (midP p seed d) (colsI n seed (j : Int))) = (List.range K).flatMap (Go.Vc.pcL d w) := by
    exact flatMap_cg _ fun j hj => B.symFirst (List.mem_range.1 hj)
  rw [this, flat_take d w K (by rw [B.len]; exact Nat.le_refl _), List.take_of_length_le (by rw [B.len]; exact Nat.le_refl _)]
theorem BlkOk.solvesAll (B : BlkOk p seed d K H w n) {ids : List Int} (hid : ∀ i ∈ ids, mayID i = true) : Wl.solves n w (matI p seed ids) (midR p (trueSyms p seed (midP p seed d) ids)) (midP p seed d) := by
  have hf : ids.filter mayID = ids := List.filter_eq_self.2 hid
  have hA : matI p seed ids = aheadRows K H ++ ids.map (rowI n seed) := by
    unfold matI; rw [B.may, if_pos rfl, hf, B.colsN]
    have h1 : p.1.toNat = K := by have := B.k; omega
    have h2 : p.2.1.toNat = H := by have := B.h; omega
    rw [h1, h2]
  have hB : midR p (trueSyms p seed (midP p seed d) ids) = List.replicate H (zeroB w) ++ ids.map fun i => symB w (midP p seed d) (colsI n seed i) := by
    unfold midR trueSyms
    have h2 : p.2.1.toNat = H := by have := B.h; omega
    rw [h2, B.size, B.colsN, List.map_map]; rfl
  refine ⟨B.midLen.1, B.midLen.2, fun i hi => ?_⟩
  rw [hA] at hi ⊢
  rw [hB]
  have hal : (aheadRows K H).length = H := by simp [aheadRows]
  simp only [List.length_append, List.length_map, hal] at hi
  by_cases hiH : i < H
  · have e1 : rowB (aheadRows K H ++ ids.map (rowI n seed)) i = aheadRow K H i := by
      rw [row_lt (by simp; omega), List.getElem_append_left (by omega)]; simp [aheadRows]
    have e2 : rowB (List.replicate H (zeroB w) ++ ids.map fun i => symB w (midP p seed d) (colsI n seed i)) i = zeroB w := by
      rw [row_lt (by simp; omega), List.getElem_append_left (by simpa using hiH)]; simp
    rw [e1, e2]; exact B.low hiH
  · have e1 : rowB (aheadRows K H ++ ids.map (rowI n seed)) i = rowI n seed (ids[i - H]'(by omega)) := by
      rw [row_lt (by simp; omega), List.getElem_append_right (by omega)]; simp [hal]
    have e2 : rowB (List.replicate H (zeroB w) ++ ids.map fun i => symB w (midP p seed d) (colsI n seed i)) i = symB w (midP p seed d) (colsI n seed (ids[i - H]'(by omega))) := by
      rw [row_lt (by simp; omega), List.getElem_append_right (by simpa using hiH)]; simp
    rw [e1, e2, B.sym]
theorem midR_even {l : List (Int × Row)} (hl : ∀ x ∈ l, SymOk p x) : evenB p.2.2.toNat (midR p l) := fun x hx => by
  rcases List.mem_append.1 hx with hx | hx
  · rw [(List.mem_replicate.1 hx).2]; simp [zeroB]
  · obtain ⟨y, hy, rfl⟩ := List.mem_map.1 hx; exact (hl y hy).len
theorem mat_mid_len (hm : mayP p = true) {l : List (Int × Row)} (hl : ∀ x ∈ l, SymOk p x) : (matI p seed (l.map Prod.fst)).length = (midR p l).length := by
  rw [← eqs_A (n := (colsP p).toNat) (seed := seed) hm rfl hl, ← eqs_B (n := (colsP p).toNat) (seed := seed) (p := p) (l := l) rfl]; exact all_len
theorem full_rank (hm : mayP p = true) {ids : List Int} : fullI p seed ids = true ↔ rankB (matI p seed ids) = (colsP p).toNat := by
  have := colsP_eq hm
  have := (mayP_iff p).1 hm
  unfold fullI rankI; rw [hm, Bool.true_and]; simp; omega
theorem BlkOk.dec (B : BlkOk p seed d K H w n) {ids : List Int} (hid : ∀ i ∈ ids, mayID i = true) (hf : fullI p seed ids = true) : decB p seed (trueSyms p seed (midP p seed d) ids) = (d, 0) := by
  have hok : ∀ x ∈ trueSyms p seed (midP p seed d) ids, SymOk p x := fun x hx => (sym_ok B.may).1 (List.all_eq_true.1 (B.trueOk hid) x hx)
  have hs := B.solvesAll hid
  have hl := mat_mid_len (seed := seed) B.may hok
  rw [true_ids] at hl
  have hr := (full_rank B.may).1 hf
  have hu := sol_unique hl (matI_even p seed ids) (midR_even hok) hr (by rw [B.colsN, B.size]; exact hs)
  unfold decB
  rw [B.may, B.trueOk hid, true_ids, hf]
  simp only [Bool.and_self, if_true]
  rw [if_pos hu.2, ← hu.1, B.out]
theorem dec_rank (hm : mayP p = true) {l : List (Int × Row)} (hl : l.all (symB? p) = true) (hf : fullI p seed (l.map Prod.fst) = false) : decB p seed l = ([], 9) := by
  unfold decB; rw [hm, hl, hf]; rfl
theorem few_rows (hm : mayP p = true) {ids : List Int} (h : (p.2.1.toNat + ids.length : Int) < colsP p) : fullI p seed ids = false := by
  cases hf : fullI p seed ids with
  | false => rfl
  | true =>
    exfalso
    have hr := (full_rank hm).1 hf
    have h1 := rank_le_rows _ (matI_even p seed ids)
    have h2 : (matI p seed ids).length ≤ p.2.1.toNat + ids.length := by
      unfold matI; rw [hm, if_pos rfl]
      have := List.length_filter_le mayID ids
      simp [aheadRows]; omega
    omega
theorem wake_dec : decB (1, 1, 1) 0 [] = ([], 9) := dec_rank rfl rfl (few_rows rfl (by decide))
end
end Wl
namespace Go.Proofs.YtkcplnfomahleaaGreatDoor
open Go Go.Vc Go.Proofs Wl
set_option maxRecDepth 100000
theorem dwakes_spec (h : Heap) : Meets Tryz.prog wellspringlaw14_wakes_id #[] h fun v h' => v = .bool true ∧ Sp h h' [] := by
  refine wellspringlaw14_wakes_run ?_
  unfold wellspringlaw14_wakes_m
  refine (block_spec (1, 1, 1) 0 ⟨none, 0, 0⟩ [] h (EltL.nil _ _ _ _) (by decide)).mono ?_
  rintro _ h1 ⟨r, rfl, R1⟩
  refine ⟨(r, (decB (1, 1, 1) 0 []).2), rfl, ?_, .zip R1.pres⟩
  rw [wake_dec]; rfl
end Go.Proofs.YtkcplnfomahleaaGreatDoor
namespace Wl
end Wl
namespace Go.Proofs.YtkcplnfomahleaaGreatDoor
open Go Go.Vc Go.Proofs Wl
set_option maxRecDepth 100000
abbrev eSym : ElemOk C.toCfg T_sl_api_Symbol T_api_Symbol 2 [.int .i64 0, .slice none 0 0] 32 := ⟨_, _, rfl, rfl, rfl, rfl, rfl, rfl⟩
end Go.Proofs.YtkcplnfomahleaaGreatDoor
