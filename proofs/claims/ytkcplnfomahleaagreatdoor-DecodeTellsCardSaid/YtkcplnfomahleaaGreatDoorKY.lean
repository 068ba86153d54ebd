/- Part of the proofs that wellspringlaw14's laws answer true whatever the input reads, and leave it as it was; no condition. -/
import Derived.Test.YtkcplnfomahleaaGreatDoorRFB
import Derived.Test.YtkcplnfomahleaaGreatDoorKD
import Derived.Test.YtkcplnfomahleaaGreatDoorHpA
set_option linter.unusedVariables false
set_option linter.unusedSimpArgs false
namespace Go.Proofs.YtkcplnfomahleaaGreatDoor
open Go Go.Vc Go.Proofs Wl
set_option maxRecDepth 100000
section
variable {B : Blocks} {h0 h : Heap} {As : List HP}
structure SpareIs (pool : List (Sl × Row)) (zs : List (Int × Sl)) (sy : List (Int × Row)) : Prop where
  len : zs.length = sy.length
  row : ∀ (j : Nat) z s, zs[j]? = some z → sy[j]? = some s → z.1 = s.1 ∧ z.2.len = s.2.length ∧ z.2.cap = s.2.length + 2 ∧ (⟨z.2.ptr, s.2.length + 2, s.2.length + 2⟩, s.2 ++ [71, 71]) ∈ pool
theorem SpareIs.snoc {pool : List (Sl × Row)} {zs : List (Int × Sl)} {sy : List (Int × Row)} (x : SpareIs pool zs sy) (z : Int × Sl) (s : Int × Row) (h1 : z.1 = s.1) (h2 : z.2.len = s.2.length) (h3 : z.2.cap = s.2.length + 2) : SpareIs ((⟨z.2.ptr, s.2.length + 2, s.2.length + 2⟩, s.2 ++ [71, 71]) :: pool) (zs ++ [z]) (sy ++ [s]) := by
  refine ⟨by simp [x.len], fun j a b ha hb => ?_⟩
  by_cases hj : j < zs.length
  · rw [List.getElem?_append_left hj] at ha
    rw [List.getElem?_append_left (by rw [← x.len]; exact hj)] at hb
    obtain ⟨q1, q2, q3, q4⟩ := x.row j a b ha hb
    exact ⟨q1, q2, q3, List.mem_cons_of_mem _ q4⟩
  · have hje : j = zs.length := by
      have := (List.getElem?_eq_some_iff.1 ha).1
      simp at this; omega
    subst hje
    rw [List.getElem?_append_right (Nat.le_refl _)] at ha
    rw [List.getElem?_append_right (by rw [x.len]; exact Nat.le_refl _)] at hb
    simp [x.len] at ha hb
    subst ha; subst hb
    exact ⟨h1, h2, h3, List.mem_cons_self⟩
theorem SpareIs.elt {pool : List (Sl × Row)} {zs : List (Int × Sl)} {sy : List (Int × Row)} (x : SpareIs pool zs sy) {o : Sl} (ho : Vc.Seq h (fun b => b < h.size) o 2 yv zs) (hp : ∀ y ∈ pool, Rd h y.1 1 u8v y.2) : RdE EltYs h o sy :=
  ⟨zs, ho, x.len, fun j z s h1 h2 => by
    obtain ⟨q1, q2, q3, q4⟩ := x.row j z s h1 h2
    refine ⟨q1, ?_⟩
    have := (hp _ q4).take s.2.length (by simp)
    rw [List.take_left] at this
    have e : z.2 = ⟨z.2.ptr, s.2.length, s.2.length + 2⟩ := by
      obtain ⟨_, p, l, c⟩ := z
      simp only at q2 q3 ⊢; rw [q2, q3]
    rw [e]; exact this⟩
theorem tell_one (a53 : Addr) (r : Pm) (s : Int) (x : Sl) (ys : List (Int × Sl)) (sy : List (Int × Row)) (H : SpB B h0 h (BoxA a53 T_api_Params [.int .i64 r.1, .int .i64 r.2.1, .int .i64 r.2.2] :: As)) (hS : St B h0 As fun h => RdF EltY 2 yv h x ys sy) (hl : sy.length ≤ 2 ^ 10) (hd : ∀ t ∈ sy, t.2.length ≤ 2 ^ 10) (hdb : (decB r s sy).1.length ≤ 2 ^ 40) {K : Heap → Prop} {F : Heap → Prop}
    (hk : ∀ h', SpB B h0 h' (BoxA a53 T_api_Params [.int .i64 r.1, .int .i64 r.2.1, .int .i64 r.2.2] :: As) → K h') :
  LoopM (σ := Sl × Int) (fun s54 K11 h36 =>
  Br (decide (s54.2 < ((x.len : Nat) : Int)))
  (∃ a55 : Addr, (x.ptr = some a55 ∧ 0 ≤ s54.2 ∧ s54.2 < ((x.len : Nat) : Int)) ∧
  ∃ x56 : Int × Sl, cellsAt h36 (a55.add (s54.2.toNat * 2)) 0 [(.int .i64 x56.1), (.slice x56.2.ptr x56.2.len x56.2.cap)] ∧
  RunsA Tryz.prog (Instr.alloc T_api_Symbol true (.tuple #[])) h36 fun a57 h37 =>
  Runs Tryz.prog (Instr.storeAt T_api_Symbol (.pointer (some a57)) (.agg #[(.int .i64 x56.1), (.slice x56.2.ptr x56.2.len x56.2.cap)])) h37 fun _ h38 =>
  ∃ x58 : Int, cellOf h38 a57 = some (.int .i64 x58) ∧
  ∃ x59 : Sl, cellOf h38 (a57.add 1) = some (.slice x59.ptr x59.len x59.cap) ∧
  CallM Tryz.prog wellspringkeep_Spare_byte_id #[(.slice x59.ptr x59.len x59.cap), (.int .u8 (71 : Int))] (.one (.sc .slc)) h38 fun r60 h39 =>
  (Held.ok [(a57, (.int .i64 x58))] h39) ∧
  RunsR Tryz.prog (Instr.buildSlice T_sl_api_Symbol 1 #[(0, (.agg #[(.int .i64 x58), (.slice r60.ptr r60.len r60.cap)]))]) (.one (.sc .slc)) h39 fun v61 h40 =>
  (Held.ok [(a57, (.int .i64 x58))] h40) ∧
  RunsR Tryz.prog (Builtin.append_ #[T_sl_api_Symbol, T_sl_api_Symbol] T_sl_api_Symbol #[(.slice s54.1.ptr s54.1.len s54.1.cap), (.slice v61.ptr v61.len v61.cap)]) (.one (.sc .slc)) h40 fun v62 h41 =>
  (Held.ok [(a57, (.int .i64 x58))] h41) ∧
  K11 ((⟨v62.ptr, v62.len, v62.cap⟩ : Sl), IntKind.wrap .i64 (s54.2 + (1 : Int))) h41)
  (∃ x63 : Int × Int × Int, cellsAt h36 a53 0 [(.int .i64 x63.1), (.int .i64 x63.2.1), (.int .i64 x63.2.2)] ∧
  CallM Tryz.prog decode_Block_id #[(.agg #[(.int .i64 x63.1), (.int .i64 x63.2.1), (.int .i64 x63.2.2)]), (.int .u32 s), (.slice s54.1.ptr s54.1.len s54.1.cap)] (.many [(.sc .slc), (.sc (.int .i64))]) h36 fun r64 h42 =>
  ∃ x65 : Int × Int × Int, cellsAt h42 a53 0 [(.int .i64 x65.1), (.int .i64 x65.2.1), (.int .i64 x65.2.2)] ∧
  CallM Tryz.prog wellspringref11_Decode_id #[(.agg #[(.int .i64 x65.1), (.int .i64 x65.2.1), (.int .i64 x65.2.2)]), (.int .u32 s), (.slice x.ptr x.len x.cap)] (.many [(.sc .slc), (.sc (.int .i64))]) h42 fun r66 h43 =>
  JoinM (σ := Unit) (fun _ h45 =>
  LoopM (σ := Int) (fun s69 K13 h46 =>
  Br (decide (s69 < ((s54.1.len : Nat) : Int)))
  (∃ a70 : Addr, (s54.1.ptr = some a70 ∧ 0 ≤ s69 ∧ s69 < ((s54.1.len : Nat) : Int)) ∧
  ∃ x71 : Int, cellOf h46 (a70.add (s69.toNat * 2)) = some (.int .i64 x71) ∧
  ∃ a72 : Addr, (x.ptr = some a72 ∧ 0 ≤ s69 ∧ s69 < ((x.len : Nat) : Int)) ∧
  ∃ x73 : Int, cellOf h46 (a72.add (s69.toNat * 2)) = some (.int .i64 x73) ∧
  Br (x71 != x73) ((Held.ok [(a72.add (s69.toNat * 2), (.int .i64 x73)), (a70.add (s69.toNat * 2), (.int .i64 x71))] h46) ∧
  F h46) (∃ a74 : Addr, (s54.1.ptr = some a74 ∧ 0 ≤ s69 ∧ s69 < ((s54.1.len : Nat) : Int)) ∧
  ∃ x75 : Sl, cellOf h46 ((a74.add (s69.toNat * 2)).add 1) = some (.slice x75.ptr x75.len x75.cap) ∧
  ∃ a76 : Addr, (x.ptr = some a76 ∧ 0 ≤ s69 ∧ s69 < ((x.len : Nat) : Int)) ∧
  ∃ x77 : Sl, cellOf h46 ((a76.add (s69.toNat * 2)).add 1) = some (.slice x77.ptr x77.len x77.cap) ∧
  CallM Tryz.prog wellspringkeep_Kept_byte_id #[(.slice x75.ptr x75.len x75.cap), (.slice x77.ptr x77.len x77.cap), (.int .u8 (71 : Int))] (.one (.sc .bool)) h46 fun r78 h47 =>
  (Held.ok [(a72.add (s69.toNat * 2), (.int .i64 x73)), (a70.add (s69.toNat * 2), (.int .i64 x71))] h47) ∧
  Br (!r78)
  (F h47)
  (K13 (IntKind.wrap .i64 (s69 + (1 : Int))) h47)))
  (K h46)) (0 : Int) h45)
  (fun K12 =>
  Br (r64.2 != r66.2) (F h43) (CallM Tryz.prog wellspringkeep_Same_byte_id #[(.slice r64.1.ptr r64.1.len r64.1.cap), (.slice r66.1.ptr r66.1.len r66.1.cap)] (.one (.sc .bool)) h43 fun r67 h44 =>
  Br (!r67)
  (F h44)
  (K12 () h44))))) ((⟨none, 0, 0⟩ : Sl), (0 : Int)) h := by
  have F0 := hS.at [_] H
  have hxl := F0.1.len
  have hyl := F0.2.1
  have H0 : SpB B h0 h (OwnA T_api_Symbol ⟨none, 0, 0⟩ 2 yv [] :: PoolA [] :: BoxA a53 T_api_Params [.int .i64 r.1, .int .i64 r.2.1, .int .i64 r.2.2] :: As) := (H.pool0.front1.nil T_api_Symbol 2 yv).front1
  refine loop_inv (fun t : Sl × List (Int × Sl) × List (Sl × Row) => (t.1, (t.2.1.length : Int))) (fun t h' => t.2.1.length ≤ sy.length ∧ SpareIs t.2.2 t.2.1 (sy.take t.2.1.length) ∧ SpB B h0 h' (OwnA T_api_Symbol t.1 2 yv t.2.1 :: PoolA t.2.2 :: BoxA a53 T_api_Params [.int .i64 r.1, .int .i64 r.2.1, .int .i64 r.2.2] :: As)) (fun t => sy.length - t.2.1.length) (⟨none, 0, 0⟩, [], []) rfl ⟨by simp, ⟨by simp, fun j z t h => by simp at h⟩, H0⟩ ?_
  rintro ⟨o, zs, pool⟩ h1 ⟨hi, T1, H1⟩
  dsimp only at *
  have F1 := hS.at [_, _, _] H1
  refine br_dec (fun e => ?_) (fun e => ?_)
  · have hi' : zs.length < sy.length := by omega
    obtain ⟨y1, y2⟩ := Fix.row F1 hi'
    have hdl := hd _ (List.getElem_mem hi')
    refine F1.1.getk (g := yv) zs.length rfl (by omega) (ys[zs.length]'(by omega)) rfl ?_
    refine H1.allocP C_ok rfl fun a57 h2 P2 H2 => ?_
    have H2 := H2.front1
    refine H2.storeAll C_ok 0 rfl rfl (yv (ys[zs.length]'(by omega))) rfl rfl rfl rfl fun h3 H3 => ?_
    refine ⟨(ys[zs.length]'(by omega)).1, (H3.box 0 rfl).cell0 rfl, (ys[zs.length]'(by omega)).2, (H3.box 0 rfl).cell rfl, ?_⟩
    have F3 := hS.at [_, _, _, _] H3
    refine (spareB_spec (ys[zs.length]'(by omega)).2 sy[zs.length].2 71 h3 (Fix.row F3 hi').2 (by omega)).mono ?_
    rintro _ h4 ⟨z, rfl, z1, z2, R4⟩
    have H4 := H3.comp1 R4
    refine ⟨z, rfl, ⟨(H4.box 1 rfl).cell0 rfl, trivial⟩, ?_⟩
    have H5 := (H4.freeze 0 rfl fun _ => rfl).pool 3 0 (by decide) rfl rfl
    refine H5.litHeld C_ok yv eSym rfl [((ys[zs.length]'(by omega)).1, z)] rfl (show 1 * 2 ≤ 2 ^ 20 by decide) rfl ⟨(H5.box 1 rfl).cell0 rfl, trivial⟩ ?_
    refine H5.push C_ok 2 rfl eSym rfl (by decide) (fun _ => rfl) one_yv ((ys[zs.length]'(by omega)).1, z) rfl (by decide) (by omega) fun o' h6 H6 => ⟨⟨(H6.box 1 rfl).cell0 rfl, trivial⟩, ?_⟩
    refine ⟨(o', zs ++ [((ys[zs.length]'(by omega)).1, z)], _), by simp only [List.length_append, List.length_singleton]; rw [Go.Vc.wrap_small _ (by omega) (by omega)]; rfl, ⟨by simp; omega, ?_, H6.selT 5 [2, 3, 4]⟩, by simp; omega⟩
    simp only [List.length_append, List.length_singleton]
    rw [take_snoc _ _ hi']
    exact T1.snoc ((ys[zs.length]'(by omega)).1, z) sy[zs.length] y1 z1 z2
  · have hzl : zs.length = sy.length := by omega
    rw [hzl, List.take_length] at T1
    refine ⟨r, (H1.box 2 rfl).cells0 _ rfl, (block_spec r s o sy h1 (T1.elt (H1.seq 0 rfl fun _ => rfl) fun y hy => H1.poolRd 1 rfl hy) (by omega)).mono ?_⟩
    rintro _ h2 ⟨u, rfl, R2⟩
    have H2 := H1.comp1 R2
    refine ⟨(u, (decB r s sy).2), rfl, r, (H2.box 3 rfl).cells0 _ rfl, ?_⟩
    refine (refDecode_spec r s x sy h2 (hS.at [_, _, _, _] H2).elt (by omega) fun t ht => by have := hd t ht; omega).mono ?_
    rintro _ h3 ⟨v, rfl, R3⟩
    have H3 := H2.comp1 R3
    refine ⟨(v, (decB r s sy).2), rfl, join_in (br_ne (fun e => absurd rfl e) fun _ => ?_)⟩
    refine (sameB_spec u v _ _ h3 (H3.seq 1 rfl fun _ => rfl) (H3.seq 0 rfl fun _ => rfl) hdb).mono ?_
    rintro _ h4 ⟨rfl, rfl⟩
    refine ⟨_, rfl, br_not (fun e => by simp at e) fun _ => ?_⟩
    have hol := (H3.own 2 rfl).len
    refine loop_inv (fun i : Nat => (i : Int)) (fun i h' => h' = h4 ∧ i ≤ sy.length) (fun i => sy.length - i) 0 rfl ⟨rfl, by omega⟩ ?_
    rintro i h5 ⟨rfl, hi5⟩
    refine br_dec (fun e => ?_) (fun e => hk h5 (H3.selT 5 [4]))
    have hi' : i < sy.length := by
      have e' : (i : Int) < (o.len : Int) := e
      omega
    have F5 := hS.at [_, _, _, _, _] H3
    obtain ⟨y1, y2⟩ := Fix.row F5 hi'
    obtain ⟨w1, w2, w3, w4⟩ := T1.row i _ _ (List.getElem?_eq_getElem (by omega)) (List.getElem?_eq_getElem hi')
    obtain ⟨a70, ha, zz, hc, rfl⟩ := (H3.seq 2 rfl fun _ => rfl).getk (g := yv) (i := (i : Int)) i rfl (by omega) (zs[i]'(by omega)) rfl (K := fun t => t = zs[i]'(by omega)) rfl
    obtain ⟨a72, hb, yy, hd2, rfl⟩ := F5.1.getk (g := yv) (i := (i : Int)) i rfl (by omega) (ys[i]'(by omega)) rfl (K := fun t => t = ys[i]'(by omega)) rfl
    refine ⟨a70, ha, _, hc.1, a72, hb, _, hd2.1, br_ne (fun e => absurd (by rw [w1, y1]) e) fun _ => ?_⟩
    refine ⟨a70, ha, _, hc.2.1, a72, hb, _, hd2.2.1, ?_⟩
    refine (keptB_spec _ _ sy[i].2 71 h5 (H3.poolRd 3 rfl w4) w2 w3 y2 (by have := hd _ (List.getElem_mem hi'); omega)).mono ?_
    rintro _ h6 ⟨rfl, rfl⟩
    refine ⟨_, rfl, ⟨hd2.1, hc.1, trivial⟩, br_not (fun e => by cases e) fun _ => ?_⟩
    exact ⟨i + 1, by rw [Go.Vc.wrap_small _ (by omega) (by omega)]; rfl, ⟨rfl, by omega⟩, by omega⟩
end
end Go.Proofs.YtkcplnfomahleaaGreatDoor
namespace Go.Proofs.YtkcplnfomahleaaGreatDoor
open Go Go.Vc Go.Proofs Wl
set_option maxRecDepth 100000
abbrev eSlSym : ElemOk C.toCfg T_sl_sl_api_Symbol T_sl_api_Symbol 1 [.slice none 0 0] 24 := ⟨_, _, rfl, rfl, rfl, rfl, rfl, rfl⟩
abbrev Lot := Sl × List (Int × Sl) × List (Int × Row)
structure LotOk (h : Heap) (As : List HP) (t : Lot) : Prop where
  st : St (fun b => b < h.size) h As fun h' => RdF EltY 2 yv h' t.1 t.2.1 t.2.2
  len : t.2.2.length ≤ 2 ^ 10
  row : ∀ x ∈ t.2.2, x.2.length ≤ 2 ^ 10
theorem wrap_u8 (x : UInt8) : IntKind.wrap .u8 ((x.toNat : Int) + 1) = ((x + 1).toNat : Int) := by
  have h1 : ((x + 1 : UInt8).toNat) = (x.toNat + 1) % 256 := by simp [UInt8.toNat_add]
  have h2 := x.toNat_lt
  rw [h1]
  unfold IntKind.wrap
  simp [IntKind.bits, IntKind.signed]
  try omega
theorem tells_loop (h h27 : Heap) (a1 a8 : Addr) (p0 p : Pm) (s : Int) (s40 : Sl) (L : List Lot) (As : List HP) (H : Sp h h27 (OwnA T_sl_api_Symbol s40 1 slv (L.map fun t => t.1) :: BoxA a1 T_api_Params [.int .i64 p0.1, .int .i64 p0.2.1, .int .i64 p0.2.2] :: BoxA a8 T_api_Params [.int .i64 p.1, .int .i64 p.2.1, .int .i64 p.2.2] :: As)) (hL : L.length ≤ 4) (hok : ∀ t ∈ L, LotOk h As t) :
    LoopM (σ := Int) (fun s41 K8 h28 =>
  Br (decide (s41 < ((s40.len : Nat) : Int)))
  (∃ a42 : Addr, (s40.ptr = some a42 ∧ 0 ≤ s41 ∧ s41 < ((s40.len : Nat) : Int)) ∧
  ∃ x43 : Sl, cellOf h28 (a42.add (s41.toNat * 1)) = some (.slice x43.ptr x43.len x43.cap) ∧
  ∃ x44 : Int × Int × Int, cellsAt h28 a8 0 [(.int .i64 x44.1), (.int .i64 x44.2.1), (.int .i64 x44.2.2)] ∧
  RunsR Tryz.prog (Instr.buildSlice T_sl_api_Params 1 #[(0, (.agg #[(.int .i64 x44.1), (.int .i64 x44.2.1), (.int .i64 x44.2.2)]))]) (.one (.sc .slc)) h28 fun v45 h29 =>
  JoinM (σ := Sl) (fun s49 h32 =>
  LoopM (σ := Int) (fun s50 K10 h33 =>
  Br (decide (s50 < ((s49.len : Nat) : Int)))
  (∃ a51 : Addr, (s49.ptr = some a51 ∧ 0 ≤ s50 ∧ s50 < ((s49.len : Nat) : Int)) ∧
  ∃ x52 : Int × Int × Int, cellsAt h33 (a51.add (s50.toNat * 3)) 0 [(.int .i64 x52.1), (.int .i64 x52.2.1), (.int .i64 x52.2.2)] ∧
  RunsA Tryz.prog (Instr.alloc T_api_Params true (.tuple #[])) h33 fun a53 h34 =>
  Runs Tryz.prog (Instr.storeAt T_api_Params (.pointer (some a53)) (.agg #[(.int .i64 x52.1), (.int .i64 x52.2.1), (.int .i64 x52.2.2)])) h34 fun _ h35 =>
  LoopM (σ := Sl × Int) (fun s54 K11 h36 =>
  Br (decide (s54.2 < ((x43.len : Nat) : Int)))
  (∃ a55 : Addr, (x43.ptr = some a55 ∧ 0 ≤ s54.2 ∧ s54.2 < ((x43.len : Nat) : Int)) ∧
  ∃ x56 : Int × Sl, cellsAt h36 (a55.add (s54.2.toNat * 2)) 0 [(.int .i64 x56.1), (.slice x56.2.ptr x56.2.len x56.2.cap)] ∧
  RunsA Tryz.prog (Instr.alloc T_api_Symbol true (.tuple #[])) h36 fun a57 h37 =>
  Runs Tryz.prog (Instr.storeAt T_api_Symbol (.pointer (some a57)) (.agg #[(.int .i64 x56.1), (.slice x56.2.ptr x56.2.len x56.2.cap)])) h37 fun _ h38 =>
  ∃ x58 : Int, cellOf h38 a57 = some (.int .i64 x58) ∧
  ∃ x59 : Sl, cellOf h38 (a57.add 1) = some (.slice x59.ptr x59.len x59.cap) ∧
  CallM Tryz.prog wellspringkeep_Spare_byte_id #[(.slice x59.ptr x59.len x59.cap), (.int .u8 (71 : Int))] (.one (.sc .slc)) h38 fun r60 h39 =>
  (Held.ok [(a57, (.int .i64 x58))] h39) ∧
  RunsR Tryz.prog (Instr.buildSlice T_sl_api_Symbol 1 #[(0, (.agg #[(.int .i64 x58), (.slice r60.ptr r60.len r60.cap)]))]) (.one (.sc .slc)) h39 fun v61 h40 =>
  (Held.ok [(a57, (.int .i64 x58))] h40) ∧
  RunsR Tryz.prog (Builtin.append_ #[T_sl_api_Symbol, T_sl_api_Symbol] T_sl_api_Symbol #[(.slice s54.1.ptr s54.1.len s54.1.cap), (.slice v61.ptr v61.len v61.cap)]) (.one (.sc .slc)) h40 fun v62 h41 =>
  (Held.ok [(a57, (.int .i64 x58))] h41) ∧
  K11 ((⟨v62.ptr, v62.len, v62.cap⟩ : Sl), IntKind.wrap .i64 (s54.2 + (1 : Int))) h41)
  (∃ x63 : Int × Int × Int, cellsAt h36 a53 0 [(.int .i64 x63.1), (.int .i64 x63.2.1), (.int .i64 x63.2.2)] ∧
  CallM Tryz.prog decode_Block_id #[(.agg #[(.int .i64 x63.1), (.int .i64 x63.2.1), (.int .i64 x63.2.2)]), (.int .u32 s), (.slice s54.1.ptr s54.1.len s54.1.cap)] (.many [(.sc .slc), (.sc (.int .i64))]) h36 fun r64 h42 =>
  ∃ x65 : Int × Int × Int, cellsAt h42 a53 0 [(.int .i64 x65.1), (.int .i64 x65.2.1), (.int .i64 x65.2.2)] ∧
  CallM Tryz.prog wellspringref11_Decode_id #[(.agg #[(.int .i64 x65.1), (.int .i64 x65.2.1), (.int .i64 x65.2.2)]), (.int .u32 s), (.slice x43.ptr x43.len x43.cap)] (.many [(.sc .slc), (.sc (.int .i64))]) h42 fun r66 h43 =>
  JoinM (σ := Unit) (fun _ h45 =>
  LoopM (σ := Int) (fun s69 K13 h46 =>
  Br (decide (s69 < ((s54.1.len : Nat) : Int)))
  (∃ a70 : Addr, (s54.1.ptr = some a70 ∧ 0 ≤ s69 ∧ s69 < ((s54.1.len : Nat) : Int)) ∧
  ∃ x71 : Int, cellOf h46 (a70.add (s69.toNat * 2)) = some (.int .i64 x71) ∧
  ∃ a72 : Addr, (x43.ptr = some a72 ∧ 0 ≤ s69 ∧ s69 < ((x43.len : Nat) : Int)) ∧
  ∃ x73 : Int, cellOf h46 (a72.add (s69.toNat * 2)) = some (.int .i64 x73) ∧
  Br (x71 != x73) ((Held.ok [(a72.add (s69.toNat * 2), (.int .i64 x73)), (a70.add (s69.toNat * 2), (.int .i64 x71))] h46) ∧
  (Value.bool false = .bool true ∧ Pres (fun b => b < h.size) h h46)) (∃ a74 : Addr, (s54.1.ptr = some a74 ∧ 0 ≤ s69 ∧ s69 < ((s54.1.len : Nat) : Int)) ∧
  ∃ x75 : Sl, cellOf h46 ((a74.add (s69.toNat * 2)).add 1) = some (.slice x75.ptr x75.len x75.cap) ∧
  ∃ a76 : Addr, (x43.ptr = some a76 ∧ 0 ≤ s69 ∧ s69 < ((x43.len : Nat) : Int)) ∧
  ∃ x77 : Sl, cellOf h46 ((a76.add (s69.toNat * 2)).add 1) = some (.slice x77.ptr x77.len x77.cap) ∧
  CallM Tryz.prog wellspringkeep_Kept_byte_id #[(.slice x75.ptr x75.len x75.cap), (.slice x77.ptr x77.len x77.cap), (.int .u8 (71 : Int))] (.one (.sc .bool)) h46 fun r78 h47 =>
  (Held.ok [(a72.add (s69.toNat * 2), (.int .i64 x73)), (a70.add (s69.toNat * 2), (.int .i64 x71))] h47) ∧
  Br (!r78)
  (Value.bool false = .bool true ∧ Pres (fun b => b < h.size) h h47)
  (K13 (IntKind.wrap .i64 (s69 + (1 : Int))) h47)))
  (K10 (IntKind.wrap .i64 (s50 + (1 : Int))) h46)) (0 : Int) h45)
  (fun K12 =>
  Br (r64.2 != r66.2) (Value.bool false = .bool true ∧ Pres (fun b => b < h.size) h h43) (CallM Tryz.prog wellspringkeep_Same_byte_id #[(.slice r64.1.ptr r64.1.len r64.1.cap), (.slice r66.1.ptr r66.1.len r66.1.cap)] (.one (.sc .bool)) h43 fun r67 h44 =>
  Br (!r67)
  (Value.bool false = .bool true ∧ Pres (fun b => b < h.size) h h44)
  (K12 () h44))))) ((⟨none, 0, 0⟩ : Sl), (0 : Int)) h35)
  (K8 (IntKind.wrap .i64 (s41 + (1 : Int))) h33)) (0 : Int) h32)
  (fun K9 =>
  Br (s41 == (0 : Int))
  (∃ x46 : Int × Int × Int, cellsAt h29 a1 0 [(.int .i64 x46.1), (.int .i64 x46.2.1), (.int .i64 x46.2.2)] ∧
  RunsR Tryz.prog (Instr.buildSlice T_sl_api_Params 1 #[(0, (.agg #[(.int .i64 x46.1), (.int .i64 x46.2.1), (.int .i64 x46.2.2)]))]) (.one (.sc .slc)) h29 fun v47 h30 =>
  RunsR Tryz.prog (Builtin.append_ #[T_sl_api_Params, T_sl_api_Params] T_sl_api_Params #[(.slice v45.ptr v45.len v45.cap), (.slice v47.ptr v47.len v47.cap)]) (.one (.sc .slc)) h30 fun v48 h31 =>
  K9 (⟨v48.ptr, v48.len, v48.cap⟩ : Sl) h31)
  (K9 (⟨v45.ptr, v45.len, v45.cap⟩ : Sl) h29)))
  (CallM Tryz.prog wellspringlaw14_wakes_id #[] (.one (.sc .bool)) h28 fun r79 h48 =>
  Value.bool r79 = .bool true ∧ Pres (fun b => b < h.size) h h48)) (0 : Int) h27 := by
  have hsl := (H.own 0 rfl).len
  rw [List.length_map] at hsl
  refine loop_inv (fun i : Nat => (i : Int)) (fun i h' => i ≤ L.length ∧ Sp h h' (OwnA T_sl_api_Symbol s40 1 slv (L.map fun t => t.1) :: BoxA a1 T_api_Params [.int .i64 p0.1, .int .i64 p0.2.1, .int .i64 p0.2.2] :: BoxA a8 T_api_Params [.int .i64 p.1, .int .i64 p.2.1, .int .i64 p.2.2] :: As)) (fun i => L.length - i) 0 rfl ⟨by omega, H⟩ ?_
  rintro i h28 ⟨hi, H28⟩
  refine br_dec (fun e => ?_) (fun e => ?_)
  · have hi' : i < L.length := by omega
    have hLi := hok L[i] (List.getElem_mem hi')
    refine (H28.seq 0 rfl fun _ => rfl).getH i rfl (by simpa using hi') ?_
    rw [List.getElem_map]
    refine ⟨p, (H28.box 2 rfl).cells0 _ rfl, ?_⟩
    refine H28.lit C_ok pv3 ePm rfl [p] rfl (show 1 * 3 ≤ 2 ^ 20 by decide) rfl fun v45 h29 H29 => ?_
    have H29 := H29.front1
    refine join_cut (fun s49 h' => ∃ PL : List Pm, PL.length ≤ 2 ∧ Sp h h' (OwnA T_api_Params s49 3 pv3 PL :: OwnA T_sl_api_Symbol s40 1 slv (L.map fun t => t.1) :: BoxA a1 T_api_Params [.int .i64 p0.1, .int .i64 p0.2.1, .int .i64 p0.2.2] :: BoxA a8 T_api_Params [.int .i64 p.1, .int .i64 p.2.1, .int .i64 p.2.2] :: As)) ?_ ?_
    · refine br_eq (fun _ => ⟨p0, (H29.box 2 rfl).cells0 _ rfl, ?_⟩) fun _ => ⟨[p], by simp, H29⟩
      refine H29.push C_ok 0 rfl ePm rfl (by decide) (fun _ => rfl) (fun x c hc => by simp [pv3] at hc; rcases hc with rfl | rfl | rfl <;> rfl) p0 rfl (by decide) (by simp) fun v48 h31 H31 => ?_
      exact ⟨[p, p0], by simp, H31⟩
    rintro s49 h32 ⟨PL, hPL, H32⟩
    have hpl := (H32.own 0 rfl).len
    refine loop_inv (fun j : Nat => (j : Int)) (fun j h' => j ≤ PL.length ∧ Sp h h' (OwnA T_api_Params s49 3 pv3 PL :: OwnA T_sl_api_Symbol s40 1 slv (L.map fun t => t.1) :: BoxA a1 T_api_Params [.int .i64 p0.1, .int .i64 p0.2.1, .int .i64 p0.2.2] :: BoxA a8 T_api_Params [.int .i64 p.1, .int .i64 p.2.1, .int .i64 p.2.2] :: As)) (fun j => PL.length - j) 0 rfl ⟨by omega, H32⟩ ?_
    rintro j h33 ⟨hj, H33⟩
    refine br_dec (fun e2 => ?_) (fun e2 => ?_)
    · have hj' : j < PL.length := by omega
      refine (H33.seq 0 rfl fun _ => rfl).getk (g := pv3) j rfl hj' PL[j] rfl ?_
      refine H33.alloc C_ok rfl fun a53 h34 H34 => ?_
      have H34 := H34.front1
      refine H34.storeAll C_ok 0 rfl rfl (pv3 PL[j]) rfl rfl rfl rfl fun h35 H35 => ?_
      refine tell_one a53 PL[j] s L[i].1 L[i].2.1 L[i].2.2 H35 hLi.st.cons.cons.cons.cons hLi.len hLi.row (dec_len _ _ _) fun h46 H46 => ?_
      exact ⟨j + 1, by rw [Go.Vc.wrap_small _ (by omega) (by omega)]; rfl, ⟨by omega, H46.drop1⟩, by omega⟩
    · exact ⟨i + 1, by rw [Go.Vc.wrap_small _ (by omega) (by omega)]; rfl, ⟨by omega, H33.drop1⟩, by omega⟩
  · refine (dwakes_spec h28).mono ?_
    rintro _ h48 ⟨rfl, R48⟩
    exact ⟨_, rfl, rfl, (H28.up R48.pres).pres⟩
end Go.Proofs.YtkcplnfomahleaaGreatDoor
namespace Go.Proofs.YtkcplnfomahleaaGreatDoor
open Go Go.Vc Go.Proofs Wl
set_option maxRecDepth 100000
theorem fix_zip {h : Heap} {q : Blocks} {x : Sl} (T : List ((Int × Sl) × (Int × Row))) (hs : Go.Vc.Seq h q x 2 yv (T.map Prod.fst)) (hE : ∀ t ∈ T, EltY.p h q t.1 t.2) : Fix EltY 2 yv h q x (T.map Prod.fst) (T.map Prod.snd) :=
  ⟨hs, by simp, fun i r l h1 h2 => by
    rw [List.getElem?_map] at h1 h2
    cases h3 : T[i]? with
    | none => rw [h3] at h1; cases h1
    | some t =>
      rw [h3] at h1 h2; simp at h1 h2; subst h1; subst h2
      exact hE t (List.mem_of_getElem? h3)⟩
set_option maxHeartbeats 1000000 in
theorem tells_law (p0 : Pm) (a b c seed : Int) (data : Sl) (dl : Row) (ids : Sl) (il : List Int) (l : Sl) (lz : List ((Int × Sl) × Row)) (turn : Int) (h : Heap) (hd : Rd h data 1 u8v dl) (hi : Rd h ids 1 intv il) (hl : Rd h l 2 yv (lz.map Prod.fst)) (hlr : ∀ z ∈ lz, Rd h z.1.2 1 u8v z.2) :
    Meets Tryz.prog wellspringlaw14_DecodeTells_id #[pmv p0, .int .i64 a, .int .i64 b, .int .i64 c, .int .u64 seed, .slice data.ptr data.len data.cap, .slice ids.ptr ids.len ids.cap, .slice l.ptr l.len l.cap, .int .i64 turn] h fun v h' => v = .bool true ∧ Pres (fun b => b < h.size) h h' := by
  refine wellspringlaw14_DecodeTells_run p0 a b c seed data ids l turn ?_
  unfold wellspringlaw14_DecodeTells_m
  refine (Sp.refl h).boxed fun a1 h1 H1 => ?_
  have hll := hl.len
  rw [List.length_map] at hll
  have wake : ∀ {h' : Heap} {As : List HP}, Sp h h' As → CallM Tryz.prog wellspringlaw14_wakes_id #[] (.one (.sc .bool)) h' fun r2 h2 => Value.bool r2 = .bool true ∧ Pres (fun b => b < h.size) h h2 := fun {h' As} H' => by
    refine (dwakes_spec h').mono ?_
    rintro _ h3 ⟨rfl, R3⟩
    exact ⟨_, rfl, rfl, (H'.up R3.pres).pres⟩
  refine br_dec (fun _ => wake H1) fun e0 => ?_
  refine loop_inv (fun i : Nat => (i : Int)) (fun i h' => i ≤ lz.length ∧ h' = h1 ∧ ∀ z ∈ lz.take i, z.2.length ≤ 30) (fun i => lz.length - i) 0 rfl ⟨by omega, rfl, by simp⟩ ?_
  rintro i _ ⟨hi1, rfl, hsh⟩
  refine br_dec (fun e => ?_) (fun e => ?_)
  · have hi' : i < lz.length := by omega
    obtain ⟨a4, ha, zz, hc, rfl⟩ := (Seq.up hl H1.pres).getk (g := yv) (i := (i : Int)) i rfl (by simpa using hi') lz[i].1 (by simp) (K := fun t => t = lz[i].1) rfl
    have hzl := (hlr _ (List.getElem_mem hi')).len
    refine ⟨a4, ha, _, hc.2.1, br_dec (fun _ => wake H1) fun e2 => ?_⟩
    refine ⟨i + 1, by rw [Go.Vc.wrap_small _ (by omega) (by omega)]; rfl, ⟨by omega, rfl, fun z hz => ?_⟩, by omega⟩
    rw [take_snoc _ _ hi'] at hz
    rcases List.mem_append.1 hz with hz | hz
    · exact hsh z hz
    · rw [List.mem_singleton.1 hz]; omega
  rw [List.take_of_length_le (by omega)] at hsh
  clear e
  refine (params_spec a b c _).mono ?_
  rintro _ h5 ⟨rfl, R5⟩
  have H5 := H1.up R5.pres
  obtain ⟨p, hp⟩ : ∃ p, p = playP a b c := ⟨_, rfl⟩
  have hmay : mayP p = true := by rw [hp]; exact playP_may a b c
  rw [← hp]
  have hmp := (mayP_iff p).1 hmay
  refine ⟨p, rfl, H5.alloc C_ok rfl fun a8 h6 H6 => ?_⟩
  refine H6.storeAll C_ok 1 rfl rfl [.int .i64 p.1, .int .i64 p.2.1, .int .i64 p.2.2] rfl rfl rfl rfl fun h7 H7 => ?_
  refine ⟨p, (H7.box 1 rfl).cells0 _ rfl, (seed_spec p seed h7).mono ?_⟩
  rintro _ h8 ⟨s, rfl, R8⟩
  have H8 := H7.up R8.pres
  refine ⟨s, rfl, ?_⟩
  refine H8.lit C_ok slv eSlSym rfl [l] rfl (show 1 * 1 ≤ 2 ^ 20 by decide) rfl fun v11 h9 H9 => ?_
  refine join_in ⟨p, (H9.box 1 rfl).cells0 _ rfl, p.1, (H9.box 1 rfl).cell0 rfl, p.2.2, (H9.box 1 rfl).cell rfl, ?_⟩
  obtain ⟨K, hK⟩ : ∃ K : Nat, p.1 = K := ⟨p.1.toNat, by omega⟩
  obtain ⟨Hh, hH⟩ : ∃ H : Nat, p.2.1 = H := ⟨p.2.1.toNat, by omega⟩
  obtain ⟨w, hw⟩ : ∃ w : Nat, p.2.2 = w := ⟨p.2.2.toNat, by omega⟩
  have hKw : K * w ≤ 16 * 24 := Nat.mul_le_mul (by omega) (by omega)
  have eKw : p.1 * p.2.2 = ((K * w : Nat) : Int) := by rw [hK, hw, Int.natCast_mul]
  rw [eKw, i64_of_nat _ (by omega)]
  refine (data_spec data dl (K * w) h9 (Seq.up hd H9.pres) (by omega)).mono ?_
  rintro _ h10 ⟨dd, rfl, R10⟩
  have H10 := (H9.comp R10).sel [2, 0, 1, 3]
  have hxl := dataB_len dl (K * w)
  have hxc := (H10.own 3 rfl).cap
  have hb10 := H10.box 2 rfl
  refine ⟨dd, rfl, ⟨hb10.cell rfl, hb10.cell0 rfl, hb10.cell0 rfl, hb10.cell rfl, hb10.cell rfl, trivial⟩, ?_⟩
  generalize dataB dl (K * w) = d at *
  obtain ⟨T0, hT0⟩ : ∃ T0 : List ((Int × Sl) × (Int × Row)), T0 = lz.map fun z => (z.1, (z.1.1, z.2)) := ⟨_, rfl⟩
  have hT01 : T0.map Prod.fst = lz.map Prod.fst := by rw [hT0]; simp [List.map_map, Function.comp_def]
  have hT0l : T0.length = lz.length := by rw [hT0]; simp
  have hE0 : ∀ {h' : Heap}, Pres (fun b => b < h.size) h h' → ∀ t ∈ T0, EltY.p h' (fun b => b < h'.size) t.1 t.2 := fun {h'} P' t ht => by
    rw [hT0] at ht
    obtain ⟨z, hz, rfl⟩ := List.mem_map.1 ht
    exact ⟨rfl, Seq.up (hlr z hz) P'⟩
  have hT0r : ∀ t ∈ T0, t.2.2.length ≤ 30 := fun t ht => by
    rw [hT0] at ht
    obtain ⟨z, hz, rfl⟩ := List.mem_map.1 ht
    exact hsh z hz
  have hlot : ∀ {As : List HP} {x : Sl} {T : List ((Int × Sl) × (Int × Row))}, (∀ h', Sp h h' As → Rd h' x 2 yv (T.map Prod.fst) ∧ ∀ t ∈ T, EltY.p h' (fun b => b < h'.size) t.1 t.2) → T.length ≤ 2 ^ 10 → (∀ t ∈ T, t.2.2.length ≤ 2 ^ 10) → LotOk h As (x, T.map Prod.fst, T.map Prod.snd) := fun {As x T} h1 h2 h3 =>
    ⟨St.mk' fun h' H' => fix_zip T (h1 h' H').1 (h1 h' H').2, by simpa using h2, fun y hy => by obtain ⟨t, ht, rfl⟩ := List.mem_map.1 hy; exact h3 t ht⟩
  have hlot0 : ∀ As, LotOk h As (l, T0.map Prod.fst, T0.map Prod.snd) := fun As => hlot (fun h' H' => ⟨by rw [hT01]; exact Seq.up hl H'.pres, hE0 H'.pres⟩) (by omega) fun t ht => by have := hT0r t ht; omega
  refine (new_spec p s dd d h10 (H10.seq 3 rfl fun _ => rfl) hxc).mono ?_
  rintro v h11 ⟨n1, n2⟩
  have hnew : newE p s d.length = if fullI p s (firstI p) then 0 else 8 := by rw [newE, hmay, decide_eq_true (by rw [eKw, hxl])]; rfl
  have fin : ∀ {h27 : Heap} {s40 : Sl}, (∃ (L : List Lot) (As : List HP), Sp h h27 (OwnA T_sl_api_Symbol s40 1 slv (L.map fun t => t.1) :: BoxA a1 T_api_Params [.int .i64 p0.1, .int .i64 p0.2.1, .int .i64 p0.2.2] :: BoxA a8 T_api_Params [.int .i64 p.1, .int .i64 p.2.1, .int .i64 p.2.2] :: As) ∧ L.length ≤ 4 ∧ ∀ t ∈ L, LotOk h As t) → _ := fun {h27 s40} ⟨L, As, H, hL, hok⟩ => tells_loop h h27 a1 a8 p0 p s s40 L As H hL hok
  cases hf : fullI p s (firstI p) with
  | false =>
    rw [hf, if_neg (by simp)] at hnew
    obtain ⟨rfl, R11⟩ := n2 (by rw [hnew]; decide)
    rw [hnew]
    have H11 := H10.up R11.pres
    have hb11 := H11.box 2 rfl
    refine ⟨(none, 8), rfl, ⟨hb11.cell rfl, hb11.cell0 rfl, trivial⟩, join_cut (fun s40 h27 => ∃ (L : List Lot) (As : List HP), Sp h h27 (OwnA T_sl_api_Symbol s40 1 slv (L.map fun t => t.1) :: BoxA a1 T_api_Params [.int .i64 p0.1, .int .i64 p0.2.1, .int .i64 p0.2.2] :: BoxA a8 T_api_Params [.int .i64 p.1, .int .i64 p.2.1, .int .i64 p.2.2] :: As) ∧ L.length ≤ 4 ∧ ∀ t ∈ L, LotOk h As t) ?_ fun s40 h27 hx => fin hx⟩
    refine join_in (br_eq (fun e => absurd e (by decide)) fun _ => br_b (fun e => by cases e) fun _ => ?_)
    exact ⟨[(l, T0.map Prod.fst, T0.map Prod.snd)], [], H11.sel [0, 1, 2], by simp, fun t ht => by rw [List.mem_singleton.1 ht]; exact hlot0 _⟩
  | true =>
    rw [hf, if_pos rfl] at hnew
    obtain ⟨y, m, rfl, R11⟩ := n1 hnew
    have B : BlkOk p s d K Hh w (K + Hh) := ⟨hmay, hf, hK, hH, hw, rfl, by omega, by omega, by omega, by omega, by omega, by omega, by omega⟩
    have H11 := H10.comp R11
    have hb11 := H11.box 2 rfl
    refine ⟨(some y, 0), rfl, ⟨hb11.cell rfl, hb11.cell0 rfl, trivial⟩, join_cut (fun s40 h27 => ∃ (L : List Lot) (As : List HP), Sp h h27 (OwnA T_sl_api_Symbol s40 1 slv (L.map fun t => t.1) :: BoxA a1 T_api_Params [.int .i64 p0.1, .int .i64 p0.2.1, .int .i64 p0.2.2] :: BoxA a8 T_api_Params [.int .i64 p.1, .int .i64 p.2.1, .int .i64 p.2.2] :: As) ∧ L.length ≤ 4 ∧ ∀ t ∈ L, LotOk h As t) ?_ fun s40 h27 hx => fin hx⟩
    refine join_in (br_eq (fun _ => br_b (fun _ => ?_) fun e => by cases e) fun e => absurd rfl e)
    refine (symbols_spec B y ids il 34 h11 ⟨m, H11.box 5 rfl, H11.rd2 4 rfl⟩ (Seq.up hi H11.pres) (by decide)).mono ?_
    rintro _ h12 ⟨o, rfl, R12⟩
    have H12 := (H11.comp R12).sel [0, 1, 2, 6]
    have hid := syms_mid il 34
    generalize hjl : (il.take 34).map (· % 60) = js at hid R12 H12
    have hjl36 : js.length ≤ 34 := by rw [← hjl]; simp; omega
    refine ⟨o, rfl, ?_⟩
    obtain ⟨ys, H12⟩ := H12.eFix 3 rfl fun _ => rfl
    have H12 := H12.sel [0, 1, 2, 3]
    obtain ⟨sy, hsy⟩ : ∃ sy, sy = trueSyms p s (midP p s d) js := ⟨_, rfl⟩
    rw [← hsy] at H12
    have hsl : sy.length = js.length := by rw [hsy]; simp [trueSyms]
    have hyl := (H12.fixRd 3 rfl).2.1
    have hsyr : ∀ t ∈ sy, t.2.length ≤ 30 := fun t ht => by
      have h3 := List.all_eq_true.1 (B.trueOk hid) t (by rw [← hsy]; exact ht)
      have := ((sym_ok hmay).1 h3).len
      omega
    obtain ⟨T1, hT1⟩ : ∃ T1 : List ((Int × Sl) × (Int × Row)), T1 = ys.zip sy := ⟨_, rfl⟩
    have hT11 : T1.map Prod.fst = ys := by rw [hT1]; exact List.map_fst_zip (by omega)
    have hT12 : T1.map Prod.snd = sy := by rw [hT1]; exact List.map_snd_zip (by omega)
    have hT1l : T1.length = sy.length := by rw [hT1]; simp; omega
    rw [← hT11, ← hT12] at H12
    have hT1r : ∀ t ∈ T1, t.2.2.length ≤ 30 := fun t ht => hsyr t.2 (by rw [← hT12]; exact List.mem_map_of_mem ht)
    have hE1 : ∀ {h' : Heap} {Ds : List HP}, Sp h h' (FixA EltY 2 yv o (T1.map Prod.fst) (T1.map Prod.snd) :: Ds) → ∀ t ∈ T1, EltY.p h' (fun b => b < h'.size) t.1 t.2 := fun {h' Ds} H' t ht => by
      obtain ⟨i, hi, rfl⟩ := List.mem_iff_getElem.1 ht
      exact (H'.fixRd 0 rfl).2.2 i _ _ (by rw [List.getElem?_map, List.getElem?_eq_getElem hi]; rfl) (by rw [List.getElem?_map, List.getElem?_eq_getElem hi]; rfl)
    have H13 := H12.nil T_api_Symbol 2 yv
    refine H13.append C_ok 4 rfl eSym ⟨_, _, rfl, rfl⟩ rfl (by decide) (fun _ => rfl) (H13.fixRd 3 rfl).1 one_yv (by simp; omega) fun v20 h15 H15 => ?_
    have H15 : Sp h h15 [OwnA T_sl_api_Symbol v11 1 slv [l], BoxA a1 T_api_Params [.int .i64 p0.1, .int .i64 p0.2.1, .int .i64 p0.2.2], BoxA a8 T_api_Params [.int .i64 p.1, .int .i64 p.2.1, .int .i64 p.2.2], FixA EltY 2 yv o (T1.map Prod.fst) (T1.map Prod.snd), OwnA T_api_Symbol v20 2 yv (T1.map Prod.fst)] := H15
    have hv20 := (H15.own 4 rfl).len
    rw [List.length_map] at hv20
    refine join_cut (fun _ h' => ∃ (T2 : List ((Int × Sl) × (Int × Row))) (b25 : Sl) (l25 : Row), T2.length = T1.length ∧ (∀ t ∈ T2, t.2.2.length ≤ 30 ∧ (t ∈ T1 ∨ (t.1 = (t.2.1, b25) ∧ t.2.2 = l25))) ∧ Sp h h' [OwnA T_sl_api_Symbol v11 1 slv [l], BoxA a1 T_api_Params [.int .i64 p0.1, .int .i64 p0.2.1, .int .i64 p0.2.2], BoxA a8 T_api_Params [.int .i64 p.1, .int .i64 p.2.1, .int .i64 p.2.2], FixA EltY 2 yv o (T1.map Prod.fst) (T1.map Prod.snd), OwnA T_api_Symbol v20 2 yv (T2.map Prod.fst), OwnA T_uint8 b25 1 u8v l25]) ?_ ?_
    · refine join_cut (fun z h' => h' = h15 ∧ (z = true → 0 < T1.length)) (br_dec (fun e => ⟨by decide, rfl, fun _ => by omega⟩) fun _ => ⟨rfl, fun hh => by cases hh⟩) ?_
      rintro z _ ⟨rfl, hz⟩
      refine br_b (fun e => ?_) fun _ => ⟨T1, ⟨none, 0, 0⟩, [], rfl, fun t ht => ⟨hT1r t ht, .inl ht⟩, (H15.nil T_uint8 1 u8v)⟩
      have hpos := hz e
      refine (within_spec turn (v20.len : Int) _ (by omega) (by omega)).mono ?_
      rintro _ h17 ⟨rfl, rfl⟩
      obtain ⟨k, hk⟩ : ∃ k : Nat, turn % (v20.len : Int) = k := ⟨(turn % (v20.len : Int)).toNat, by have := Int.emod_nonneg turn (show (v20.len : Int) ≠ 0 by omega); omega⟩
      have hkl : k < T1.length := by have := Int.emod_lt_of_pos turn (show 0 < (v20.len : Int) by omega); omega
      rw [hk]
      refine ⟨_, rfl, ?_⟩
      have hkm : T1[k] ∈ T1 := List.getElem_mem hkl
      have hE := hE1 (H15.sel [3]) _ hkm
      obtain ⟨a23, ha, zz, hc, rfl⟩ := (H15.seq 4 rfl fun _ => rfl).getk (g := yv) (i := (k : Int)) k rfl (by simpa using hkl) T1[k].1 (by simp) (K := fun t => t = T1[k].1) rfl
      refine ⟨a23, ha, _, hc.2.1, ?_⟩
      have H16 := H15.nil T_uint8 1 u8v
      have hrl := hT1r _ hkm
      refine H16.append C_ok 5 rfl eU8 e_u8sl rfl (by decide) (fun _ => rfl) hE.2 one_u8 (by simp; omega) fun v25 h18 H18 => ?_
      refine H18.setF C_ok 4 rfl (fun _ => rfl) rfl k rfl (by simpa using hkl) 1 [.slice v25.ptr v25.len v25.cap] (by simp) (T1[k].1.1, v25) rfl rfl rfl (by simp [yv]) fun h19 H19 => ?_
      rw [List.nil_append] at H19
      have hheads : (T1.map Prod.fst).set k (T1[k].1.1, v25) = (T1.set k ((T1[k].1.1, v25), (T1[k].1.1, T1[k].2.2.map (· + 1)))).map Prod.fst := by rw [List.map_set]
      have getHead : ∀ {h' : Heap} {l9 : Row}, Sp h h' [OwnA T_sl_api_Symbol v11 1 slv [l], BoxA a1 T_api_Params [.int .i64 p0.1, .int .i64 p0.2.1, .int .i64 p0.2.2], BoxA a8 T_api_Params [.int .i64 p.1, .int .i64 p.2.1, .int .i64 p.2.2], FixA EltY 2 yv o (T1.map Prod.fst) (T1.map Prod.snd), OwnA T_api_Symbol v20 2 yv ((T1.map Prod.fst).set k (T1[k].1.1, v25)), OwnA T_uint8 v25 1 u8v l9] → ∃ a : Addr, (v20.ptr = some a ∧ 0 ≤ (k : Int) ∧ (k : Int) < ((v20.len : Nat) : Int)) ∧ cellOf h' ((a.add ((k : Int).toNat * 2)).add 1) = some (.slice v25.ptr v25.len v25.cap) := fun {h' l9} H' => by
        obtain ⟨a, ha, zz, hc, rfl⟩ := (H'.seq 4 rfl fun _ => rfl).getk (g := yv) (i := (k : Int)) k rfl (by simpa using hkl) (T1[k].1.1, v25) (by simp) (K := fun t => t = (T1[k].1.1, v25)) rfl
        exact ⟨a, ha, hc.2.1⟩
      obtain ⟨a27, ha27, hc27⟩ := getHead H19
      refine ⟨a27, ha27, v25, hc27, ?_⟩
      obtain ⟨rw25, hrw⟩ : ∃ r, r = T1[k].2.2 := ⟨_, rfl⟩
      rw [← hrw] at H19 hrl
      have hv25 := (H19.own 5 rfl).len
      refine loop_inv (fun i : Nat => (i : Int)) (fun i h' => i ≤ rw25.length ∧ Sp h h' [OwnA T_sl_api_Symbol v11 1 slv [l], BoxA a1 T_api_Params [.int .i64 p0.1, .int .i64 p0.2.1, .int .i64 p0.2.2], BoxA a8 T_api_Params [.int .i64 p.1, .int .i64 p.2.1, .int .i64 p.2.2], FixA EltY 2 yv o (T1.map Prod.fst) (T1.map Prod.snd), OwnA T_api_Symbol v20 2 yv ((T1.map Prod.fst).set k (T1[k].1.1, v25)), OwnA T_uint8 v25 1 u8v ((rw25.take i).map (· + 1) ++ rw25.drop i)]) (fun i => rw25.length - i) 0 rfl ⟨by omega, by simpa using H19⟩ ?_
      rintro i h20 ⟨hi20, H20⟩
      refine br_dec (fun e2 => ?_) (fun e2 => ?_)
      · have hi' : i < rw25.length := by omega
        obtain ⟨a30, ha30, hc30⟩ := getHead H20
        refine ⟨a30, ha30, v25, hc30, ?_⟩
        have hlen : ((rw25.take i).map (· + 1) ++ rw25.drop i).length = rw25.length := by simp; omega
        refine (H20.seq 5 rfl fun _ => rfl).get1 i rfl (by omega) (rw25[i].toNat : Int) (by rw [List.getElem_append_right (by simp; omega)]; simp [u8v, Nat.min_eq_left (show i ≤ rw25.length by omega)]) ?_
        rw [wrap_u8]
        refine H20.set C_ok 5 rfl (fun _ => rfl) rfl i rfl (by omega) (rw25[i] + 1) rfl rfl rfl fun h21 H21 => ?_
        refine ⟨i + 1, by rw [Go.Vc.wrap_small _ (by omega) (by omega)]; rfl, ⟨by omega, ?_⟩, by omega⟩
        have e3 : ((rw25.take i).map (· + 1) ++ rw25.drop i).set i (rw25[i] + 1) = (rw25.take (i + 1)).map (· + 1) ++ rw25.drop (i + 1) := by
          rw [List.drop_eq_getElem_cons hi', take_snoc _ _ hi', List.map_append, List.append_assoc]
          rw [List.set_append_right _ _ (by simp; omega)]
          simp [Nat.min_eq_left (show i ≤ rw25.length by omega)]
          rw [List.drop_eq_getElem_cons hi']; rfl
        rw [e3] at H21
        exact H21
      · have hie : i = rw25.length := by omega
        subst hie
        rw [List.take_of_length_le (Nat.le_refl _), List.drop_of_length_le (Nat.le_refl _), List.append_nil, hheads] at H20
        refine ⟨T1.set k ((T1[k].1.1, v25), (T1[k].1.1, T1[k].2.2.map (· + 1))), v25, rw25.map (· + 1), by simp, fun t ht => ?_, H20⟩
        rcases List.mem_or_eq_of_mem_set ht with ht | rfl
        · exact ⟨hT1r t ht, .inl ht⟩
        · exact ⟨by have := hrl; rw [hrw] at this; simpa using this, .inr ⟨rfl, by rw [hrw]⟩⟩
    · rintro _ h22 ⟨T2, b25, l25, hT2l, hT2, H22⟩
      have hT1len : T1.length ≤ 34 := by omega
      have H23 := H22.nil T_api_Symbol 2 yv
      refine H23.append C_ok 6 rfl eSym ⟨_, _, rfl, rfl⟩ rfl (by decide) (fun _ => rfl) (H23.fixRd 3 rfl).1 one_yv (by simp; omega) fun v36 h23 H23 => ?_
      refine H23.append C_ok 6 rfl eSym ⟨_, _, rfl, rfl⟩ rfl (by decide) (fun _ => rfl) (Seq.up hl H23.pres) one_yv (by simp; omega) fun v37 h24 H24 => ?_
      rw [List.nil_append, ← hT01, ← List.map_append] at H24
      refine H24.lit C_ok slv eSlSym rfl [o, v20, v37] rfl (show 3 * 1 ≤ 2 ^ 20 by decide) rfl fun v38 h25 H25 => ?_
      refine H25.append C_ok 0 rfl eSlSym ⟨_, _, rfl, rfl⟩ rfl (by decide) (fun _ => rfl) (H25.seq 7 rfl fun _ => rfl) one_sl (by simp) fun v39 h26 H26 => ?_
      refine ⟨[(l, T0.map Prod.fst, T0.map Prod.snd), (o, T1.map Prod.fst, T1.map Prod.snd), (v20, T2.map Prod.fst, T2.map Prod.snd), (v37, (T1 ++ T0).map Prod.fst, (T1 ++ T0).map Prod.snd)], [FixA EltY 2 yv o (T1.map Prod.fst) (T1.map Prod.snd), OwnA T_api_Symbol v20 2 yv (T2.map Prod.fst), OwnA T_uint8 b25 1 u8v l25, OwnA T_api_Symbol v37 2 yv ((T1 ++ T0).map Prod.fst)], H26.sel [0, 1, 2, 3, 4, 5, 6], by simp, fun t ht => ?_⟩
      simp only [List.mem_cons, List.not_mem_nil, or_false] at ht
      rcases ht with rfl | rfl | rfl | rfl
      · exact hlot0 _
      · exact hlot (fun h' H' => ⟨(H'.fixRd 0 rfl).1, hE1 H'⟩) (by omega) fun t ht => by have := hT1r t ht; omega
      · refine hlot (fun h' H' => ⟨H'.seq 1 rfl fun _ => rfl, fun t ht => ?_⟩) (by omega) fun t ht => by have := (hT2 t ht).1; omega
        rcases (hT2 t ht).2 with h1 | ⟨h1, h2⟩
        · exact hE1 H' t h1
        · exact ⟨by rw [h1], by rw [h1, h2]; exact H'.seq 2 rfl fun _ => rfl⟩
      · refine hlot (fun h' H' => ⟨H'.seq 3 rfl fun _ => rfl, fun t ht => ?_⟩) (by simp; omega) fun t ht => ?_
        · rcases List.mem_append.1 ht with ht | ht
          · exact hE1 H' t ht
          · exact hE0 H'.pres t ht
        · rcases List.mem_append.1 ht with ht | ht
          · have := hT1r t ht; omega
          · have := hT0r t ht; omega
end Go.Proofs.YtkcplnfomahleaaGreatDoor
