/- Part of the proofs that wellspringlaw29's laws answer true whatever the input reads, and leave it as it was; no condition. -/
import Derived.Test.YtdoiokchdaoonaaGreatRA
import Derived.Test.YtdoiokchdaoonaaGreatKC
import Derived.Test.YtdoiokchdaoonaaGreatKA
set_option linter.unusedVariables false
set_option linter.unusedSimpArgs false
namespace Go.Vc
open Go Wl Go.Proofs.YtdoiokchdaoonaaGreat
def mayE (p : Pm) (extra : Int) (l : List Int) : Int :=
  if (placesP l).2 && (mayP p && inB extra 0 16) then
    if (placesAt l l.length).any fun i => decide (l.getD i.toNat 0 < ((splitM (newMani p extra l)).length : Int)) then 7 else 0
  else 1
theorem formatP_eq (p : Pm) (extra : Int) (w : Pow) (l : List Int) : formatP p extra w l = if mayE p extra l = 0 then layAll (pagesOf (newMani p extra l) (placesAt l l.length)) w (newDrvs l (placesAt l l.length).length) else (mayE p extra l, w, []) := by
  unfold formatP mayE
  by_cases h : ((placesP l).2 && (mayP p && inB extra 0 16)) = true
  · rw [if_pos h, if_pos h]
    by_cases h2 : ((placesAt l l.length).any fun i => decide (l.getD i.toNat 0 < ((splitM (newMani p extra l)).length : Int))) = true
    · rw [if_pos h2, if_pos h2]; rfl
    · rw [if_neg h2, if_neg h2]; rfl
  · rw [if_neg h, if_neg h]; rfl
theorem newMani_ok {p : Pm} {extra : Int} {l : List Int} (h : mayE p extra l = 0) : mayP p = true ∧ 0 ≤ extra ∧ extra ≤ 16 ∧ (placesP l).2 = true ∧ ((placesAt l l.length).any fun i => decide (l.getD i.toNat 0 < ((splitM (newMani p extra l)).length : Int))) = false := by
  unfold mayE at h
  by_cases h1 : ((placesP l).2 && (mayP p && inB extra 0 16)) = true
  · rw [if_pos h1] at h
    by_cases h2 : ((placesAt l l.length).any fun i => decide (l.getD i.toNat 0 < ((splitM (newMani p extra l)).length : Int))) = true
    · rw [if_pos h2] at h; cases h
    · unfold inB at h1
      simp only [Bool.and_eq_true, decide_eq_true_eq] at h1
      exact ⟨h1.2.1, h1.2.2.1, h1.2.2.2, h1.1, by simpa using h2⟩
  · rw [if_neg h1] at h; cases h
abbrev zeroM : ManV := (0, 0, 0, 0, 0, 0, ⟨none, 0, 0⟩, ⟨none, 0, 0⟩)
end Go.Vc
namespace Go.Proofs.YtdoiokchdaoonaaGreat
open Go Go.Vc Go.Proofs Wl
set_option maxRecDepth 20000
theorem rmayFormat_spec (p : Pm) (extra : Int) (s : Sl) (l : List Int) (h : Heap) (hs : Rd h s 1 intv l) (hl : l.length ≤ 2 ^ 20) :
    Meets Tryz.prog wellspringref29_MayFormat_id #[pmv p, .int .i64 extra, .slice s.ptr s.len s.cap] h fun v h' => ∃ y : ManV, v = .tuple #[manv y, .int .i64 (mayE p extra l)] ∧ (mayE p extra l ≠ 0 → Sp h h' []) ∧ (mayE p extra l = 0 → Sp h h' [ManA y (newMani p extra l)]) := by
  refine wellspringref29_MayFormat_run p extra s ?_
  unfold wellspringref29_MayFormat_m
  have hsl := hs.len
  refine (Sp.refl h).boxed fun a1 h1 H1 => ?_
  refine H1.alloc C_ok rfl fun a2 h2 H2 => ?_
  have H2 : Sp h h2 [BoxA a1 23 [.int .i64 p.1, .int .i64 p.2.1, .int .i64 p.2.2], BoxA a2 T_api_Manifest (manL zeroM)] := H2
  have bad : ∀ (e : Int) {h' : Heap} {Bs : List HP}, Sp h h' (BoxA a2 T_api_Manifest (manL zeroM) :: Bs) → mayE p extra l = e → e ≠ 0 →
      Runs Tryz.prog (Instr.storeAt T_api_Manifest (.pointer (some a2)) (manv zeroM)) h' fun _ h4 => ∃ res : ManV, cellsAt h4 a2 0 (manL res) ∧ ∃ y : ManV, Value.tuple #[manv res, .int .i64 e] = .tuple #[manv y, .int .i64 (mayE p extra l)] ∧ (mayE p extra l ≠ 0 → Sp h h4 []) ∧ (mayE p extra l = 0 → Sp h h4 [ManA y (newMani p extra l)]) := fun e {h' Bs} H' he h0 => by
    refine H'.storeAll C_ok 0 rfl rfl (manL zeroM) rfl rfl rfl rfl fun h4 H4 => ?_
    exact ⟨zeroM, (H4.box 0 rfl).cells0 _ rfl, zeroM, by rw [he], fun _ => .zip H4.pres, fun hh => absurd (he.symm.trans hh) h0⟩
  have e1 : ((placesP l).2 && (mayP p && inB extra 0 16)) = false → mayE p extra l = 1 := fun hh => by unfold mayE; rw [hh]; rfl
  refine join_in ⟨p, (H2.box 0 rfl).cells0 _ rfl, (refMay_spec p h2).mono ?_⟩
  rintro _ h3 ⟨rfl, R3⟩
  have H3 : Sp h h3 [BoxA a2 T_api_Manifest (manL zeroM), BoxA a1 23 [.int .i64 p.1, .int .i64 p.2.1, .int .i64 p.2.2]] := (H2.up R3.pres).sel [1, 0]
  refine ⟨_, rfl, br_not (fun b => bad 1 H3 (e1 (by rw [b]; simp)) (by decide)) fun b1 => br_dec (fun b => bad 1 H3 (e1 (by unfold inB; simp; omega)) (by decide)) fun b2 => br_dec (fun b => bad 1 H3 (e1 (by unfold inB; simp; omega)) (by decide)) fun b3 => br_dec (fun b => bad 1 H3 (e1 ?_) (by decide)) fun b4 => ?_⟩
  · have : (placesP l).2 = false := by
      unfold placesP
      by_cases hh : l.all (inB · 0 512) = true
      · rw [if_pos hh]; simp; omega
      · rw [if_neg hh]
    rw [this]; rfl
  have hl64 : l.length ≤ 64 := by omega
  refine ⟨p, (H3.box 1 rfl).cells0 _ rfl, ?_⟩
  refine H3.alloc C_ok rfl fun a11 h4 H4 => ?_
  refine H4.storeAll C_ok 2 rfl rfl (manL (1, 0, p.1, p.2.1, p.2.2, extra, ⟨none, 0, 0⟩, ⟨none, 0, 0⟩)) rfl rfl rfl rfl fun h5 H5 => ?_
  have H5 : Sp h h5 [BoxA a2 T_api_Manifest (manL zeroM), BoxA a11 T_api_Manifest (manL (1, 0, p.1, p.2.1, p.2.2, extra, ⟨none, 0, 0⟩, ⟨none, 0, 0⟩)), OwnA T_int ⟨none, 0, 0⟩ 1 intv (placesAt l 0)] := (H5.nil T_int 1 intv).sel [0, 2, 3]
  refine loop_inv (fun t : Sl × Nat => (t.2 : Int)) (fun t h' => t.2 ≤ l.length ∧ (l.take t.2).all (inB · 0 512) = true ∧ Sp h h' [BoxA a2 T_api_Manifest (manL zeroM), BoxA a11 T_api_Manifest (manL (1, 0, p.1, p.2.1, p.2.2, extra, t.1, ⟨none, 0, 0⟩)), OwnA T_int t.1 1 intv (placesAt l t.2)]) (fun t => l.length - t.2) (⟨none, 0, 0⟩, 0) rfl ⟨by simp, by simp, H5⟩ ?_
  rintro ⟨o, i⟩ h6 ⟨hi, hall, H6⟩
  dsimp only at *
  have hbad : ∀ (hi' : i < l.length), inB l[i] 0 512 = false → mayE p extra l = 1 := fun hi' hb => e1 (by
    have : (placesP l).2 = false := by
      unfold placesP
      rw [if_neg]
      intro hc
      have := List.all_eq_true.1 hc _ (List.getElem_mem hi')
      rw [hb] at this; cases this
    rw [this]; rfl)
  refine br_dec (fun e => ?_) (fun e => ?_)
  · have hi' : i < l.length := by omega
    have hpl := placesAt_len l i
    refine (Seq.up hs H6.pres).get1 i rfl hi' l[i] rfl ?_
    refine join_in (br_dec (fun e1 => bad 1 H6 (hbad hi' (by unfold inB; simp; omega)) (by decide)) (fun e1 => br_dec (fun e2 => bad 1 H6 (hbad hi' (by unfold inB; simp; omega)) (by decide)) (fun e2 => ?_)))
    have hall' : (l.take (i + 1)).all (inB · 0 512) = true := by
      rw [take_snoc l i hi', List.all_append, hall, Bool.true_and, List.all_cons, List.all_nil, Bool.and_true]
      unfold inB; simp; omega
    refine br_dec (fun e3 => ?_) (fun e3 => ?_)
    · refine ⟨o, (H6.box 1 rfl).cell rfl, ?_⟩
      refine H6.push C_ok 2 rfl eInt rfl (by decide) (fun _ => rfl) one_int (i : Int) rfl (by decide) (by omega) fun o' h7 H7 => ?_
      refine H7.storeAt C_ok 1 rfl rfl rfl rfl rfl (by simp [manL]) fun h8 H8 => ?_
      refine ⟨(o', i + 1), by dsimp only; rw [Go.Vc.wrap_small _ (by omega) (by omega)]; rfl, ⟨by dsimp only; omega, hall', ?_⟩, by dsimp only; omega⟩
      dsimp only
      rw [placesAt_succ l i hi', if_pos (by omega)]
      exact H8
    · refine ⟨(o, i + 1), by dsimp only; rw [Go.Vc.wrap_small _ (by omega) (by omega)]; rfl, ⟨by dsimp only; omega, hall', ?_⟩, by dsimp only; omega⟩
      dsimp only
      rw [placesAt_succ l i hi', if_neg (by omega), List.append_nil]
      exact H6
  · have hie : i = l.length := by omega
    subst hie
    rw [List.take_length] at hall
    have hol := (H6.own 2 rfl).len
    have hp : placesP l = (placesAt l l.length, decide (l.length ≤ 64) && decide (0 < (placesAt l l.length).length)) := by unfold placesP; rw [if_pos hall]
    refine ⟨o, (H6.box 1 rfl).cell rfl, br_eq (fun b => bad 1 H6 (e1 ?_) (by decide)) fun b => ?_⟩
    · rw [hp]
      dsimp only
      rw [decide_eq_false (show ¬ 0 < (placesAt l l.length).length by omega), Bool.and_false]; rfl
    have hok : ((placesP l).2 && (mayP p && inB extra 0 16)) = true := by
      rw [hp, b1, decide_eq_true hl64, decide_eq_true (show 0 < (placesAt l l.length).length by omega)]
      unfold inB; simp; omega
    obtain ⟨m, hm⟩ : ∃ m, m = newMani p extra l := ⟨_, rfl⟩
    obtain ⟨P, hP⟩ : ∃ P, P = placesAt l l.length := ⟨_, rfl⟩
    have hz : ManSz m := hm ▸ newMani_sz p extra l hl64
    have hPl : P.length ≤ 64 := by rw [hP]; exact Nat.le_trans (placesAt_len _ _) hl64
    obtain ⟨x, hx⟩ : ∃ x : ManV, x = (1, 0, p.1, p.2.1, p.2.2, extra, o, ⟨none, 0, 0⟩) := ⟨_, rfl⟩
    rw [← hx, ← hP] at H6
    rw [← hP] at hol
    have hmx : ∀ {h' : Heap} {q : Blocks}, Seq h' q o 1 intv P → o.len ≤ o.cap → ManIs h' q x m := fun {h' q} hq hc => by
      subst hx; subst hm
      exact ⟨rfl, rfl, rfl, rfl, by show Seq _ _ o 1 intv (placesAt l l.length); rw [← hP]; exact hq, EltL.nil _ _ _ _, hc, Nat.le_refl _⟩
    have hxo : cellOf h6 (a11.add 6) = some (.slice o.ptr o.len o.cap) := by
      have := (H6.box 1 rfl).cell (j := 6) (v := .slice o.ptr o.len o.cap) (by rw [hx]; rfl)
      exact this
    refine ⟨o, hxo, ?_⟩
    refine loop_inv (fun i : Nat => (i : Int)) (fun i h' => i ≤ P.length ∧ ((P.take i).any fun i => decide (l.getD i.toNat 0 < ((splitM m).length : Int))) = false ∧ Sp h h' [BoxA a2 T_api_Manifest (manL zeroM), BoxA a11 T_api_Manifest (manL x), OwnA T_int o 1 intv P]) (fun i => P.length - i) 0 rfl ⟨by omega, by simp, H6⟩ ?_
    rintro i h7 ⟨hi, hall, H7⟩
    dsimp only at *
    refine br_dec (fun e5 => ?_) (fun e5 => ?_)
    · have hi' : i < P.length := by omega
      obtain ⟨n, hn, en, hpos⟩ : ∃ n : Nat, n < l.length ∧ P[i] = (n : Int) ∧ 0 < l.getD n 0 := by subst hP; exact placesAt_at l l.length i hi'
      refine (H7.seq 2 rfl fun _ => rfl).get1 i rfl hi' (n : Int) (by rw [en]; rfl) ?_
      refine (Seq.up hs H7.pres).get1A n rfl hn (l.getD n 0) (by rw [getD_lt hn]; rfl) fun a14 hc14 => ?_
      refine ⟨x, (H7.box 1 rfl).cells0 _ rfl, (rsplit_spec x m h7 (hmx (H7.seq 2 rfl fun _ => rfl) (H7.own 2 rfl).cap) hz).mono ?_⟩
      rintro _ h9 ⟨u, rfl, R9⟩
      have H9 := H7.comp1 R9
      have hul := (SpB.wLen H9).1
      refine ⟨u, rfl, held_grow R9.pres ⟨hc14, trivial⟩, ?_⟩
      refine br_dec (fun e6 => bad 7 H9.drop1 ?_ (by decide)) (fun e6 => ?_)
      · unfold mayE
        rw [if_pos hok, ← hP, ← hm, if_pos (List.any_eq_true.2 ⟨P[i], List.getElem_mem hi', by rw [en, Int.toNat_natCast]; exact decide_eq_true (by omega)⟩)]
      · refine ⟨i + 1, by rw [Go.Vc.wrap_small _ (by omega) (by omega)]; rfl, ⟨by omega, ?_, H9.drop1⟩, by omega⟩
        rw [take_snoc _ _ hi', List.any_append, hall, Bool.false_or, List.any_cons, List.any_nil, Bool.or_false, en, Int.toNat_natCast]
        exact decide_eq_false (by omega)
    · have hPi : i = P.length := by omega
      subst hPi
      rw [List.take_length] at hall
      refine ⟨x, (H7.box 1 rfl).cells0 _ rfl, ?_⟩
      refine H7.storeAll C_ok 0 rfl rfl (manL x) rfl rfl rfl rfl fun h8 H8 => ?_
      have h0 : mayE p extra l = 0 := by unfold mayE; rw [if_pos hok, ← hP, ← hm, hall]; rfl
      refine ⟨x, (H8.box 0 rfl).cells0 _ rfl, x, by rw [h0], fun hh => absurd h0 hh, fun _ => ?_⟩
      rw [← hm]
      have H9 : Sp h h8 [OwnA T_int o 1 intv P] := H8.sel [2]
      exact H9.weak 0 rfl fun q hq => hmx (hq.1.seq (fun _ => rfl) hq.2) hq.1.cap
end Go.Proofs.YtdoiokchdaoonaaGreat
namespace Go.Proofs.YtdoiokchdaoonaaGreat
open Go Go.Vc Go.Proofs Wl
section
set_option maxRecDepth 20000
theorem rstorBuild (x : ManV) (pw : Addr) (offs : Int) : AlwaysV Tryz.prog (Instr.build T_wellspringref29_Store #[(0, manv x), (1, .pointer (some pw)), (2, .int .i64 offs)]) (.agg (storC (manL x) pw offs (List.replicate 64 none)).toArray) :=
  always_build C_ok (i := _) rfl rfl rfl (vs := [(0, manv x), (1, .pointer (some pw)), (2, .int .i64 offs)]) (cells := (storC (manL x) pw offs (List.replicate 64 none)).toArray) (by kernel_rfl)
variable {B : Blocks} {h0 h : Heap} {As : List HP} {a pw b : Addr} {x : ManV} {offs : Int} {da : List (Option Addr)} {w : Pow} {ds : Drvs} {d : Drv}
theorem SpB.rdrvStore (n : Nat) (hn : n < 64) (hd : ds[n]? = some none) (H : SpB B h0 h (CoreA kitR a pw (manL x) offs da w ds :: RDrvA pw b d :: As)) {K : Unit → Heap → Prop}
    (hk : ∀ h', SpB B h0 h' (CoreA kitR a pw (manL x) offs (da.set n (some b)) w (ds.set n (some d)) :: As) → K () h') :
    Runs Tryz.prog (Instr.storeAt T_ptr_wellspringref21_Drive (.pointer (some ((a.add 10).add n))) (.pointer (some b))) h K := by
  obtain ⟨ok, H1⟩ := Go.Vc.SpB.coreOpen H
  have he : (a.add 10).add n = a.add (10 + n) := by unfold Addr.add; simp [Nat.add_assoc]
  rw [he]
  refine H1.storeAt C_ok 0 rfl rfl rfl rfl rfl (by simp [ok.la]; omega) fun h' H2 => hk h' ?_
  rw [List.set_cons_zero, storC_set ok.l8] at H2
  exact SpB.coreAdd ok hn hd H2
theorem rformat_spec (p : Pm) (extra : Int) (s : Sl) (l : List Int) (hS : St B h0 As fun h => Rd h s 1 intv l) (hl : l.length ≤ 2 ^ 20) (H : SpB B h0 h (RPowA pw w :: As)) :
    Meets Tryz.prog wellspringref29_Format_id #[pmv p, .int .i64 extra, .pointer (some pw), .slice s.ptr s.len s.cap] h fun v h' =>
      ((formatP p extra w l).1 ≠ 0 → v = .tuple #[.pointer none, .int .i64 (formatP p extra w l).1] ∧ SpB B h0 h' As) ∧
      ((formatP p extra w l).1 = 0 → ∃ (a : Addr) (x : ManV) (da : List (Option Addr)), v = .tuple #[.pointer (some a), .int .i64 0] ∧ SpB B h0 h' (CoreA kitR a pw (manL x) w.offs da (formatP p extra w l).2.1 (formatP p extra w l).2.2 :: ManA x (newMani p extra l) :: As)) := by
  refine wellspringref29_Format_run p extra (some pw) s ?_
  unfold wellspringref29_Format_m
  refine H.boxed fun a1 h1 H1 => br_b (fun e => by cases e) fun _ => ?_
  have H1 : SpB B h0 h1 (BoxA a1 23 [.int .i64 p.1, .int .i64 p.2.1, .int .i64 p.2.2] :: RPowA pw w :: As) := H1.front1
  refine ⟨p, (H1.box 0 rfl).cells0 _ rfl, (rmayFormat_spec p extra s l h1 (hS.at [_, _] H1) hl).mono ?_⟩
  rintro _ h2 ⟨x, rfl, R2, R2'⟩
  refine ⟨(x, mayE p extra l), rfl, ?_⟩
  dsimp only
  by_cases e0 : mayE p extra l = 0
  case neg =>
    have ef : formatP p extra w l = (mayE p extra l, w, []) := by rw [formatP_eq, if_neg e0]
    rw [ef]
    have H2 := H1.up (R2 e0).pres
    refine H2.alloc C_ok rfl fun a4 h3 H3 => ?_
    refine H3.front1.storeAll C_ok 0 rfl rfl (manL x) rfl rfl rfl rfl fun h4 H4 => ?_
    exact br_ne (fun _ => ⟨fun _ => ⟨rfl, H4.rest.rest.rest⟩, fun h => absurd h e0⟩) fun e => absurd e e0
  have R2 := R2' e0
  obtain ⟨em, ex1, ex2, ep, eany⟩ := newMani_ok e0
  obtain ⟨ep1, el64, el512⟩ := placesP_ok ep
  have fok : formatP p extra w l = layAll (pagesOf (newMani p extra l) (placesAt l l.length)) w (newDrvs l (placesAt l l.length).length) := by rw [formatP_eq, if_pos e0]
  have f14 := formatP_lay p extra w l el64 eany
  rw [← fok] at f14
  obtain ⟨m, hm⟩ : ∃ m, m = newMani p extra l := ⟨_, rfl⟩
  obtain ⟨P, hP⟩ : ∃ P, P = placesAt l l.length := ⟨_, rfl⟩
  have hmd : m.drives = P := by rw [hm, hP]; rfl
  rw [← hm, ← hP] at fok
  rw [← hm] at R2
  have hz : ManSz m := hm ▸ newMani_sz p extra l el64
  have hPl : P.length ≤ 64 := by rw [hP]; exact Nat.le_trans (placesAt_len _ _) el64
  have H2 : SpB B h0 h2 (ManA x m :: RPowA pw w :: As) := (H1.drop1).comp1 R2
  refine H2.alloc C_ok rfl fun a4 h3 H3 => ?_
  refine H3.front1.storeAll C_ok 0 rfl rfl (manL x) rfl rfl rfl rfl fun h4 H4 => ?_
  have H4 : SpB B h0 h4 (BoxA a4 T_api_Manifest (manL x) :: ManA x m :: RPowA pw w :: As) := H4
  refine br_ne (fun e => absurd e0 e) fun _ => ?_
  obtain ⟨lw, hlw, H4p⟩ := (H4.selT 3 [2, 1, 0]).powOpen
  have hb4 := H4.box 0 rfl
  refine ⟨x, hb4.cells0 _ rfl, pw, rfl, w.offs, (H4p.box 0 rfl).cell rfl, _, rstorBuild x pw w.offs, ?_⟩
  refine H4.boxed fun a9 h5 H5 => ?_
  have ecell : (Value.agg (storC (manL x) pw w.offs (List.replicate 64 none)).toArray).cells.toList = storC (manL x) pw w.offs (List.replicate 64 none) := by simp [Value.cells]
  rw [ecell] at H5
  have H5 : SpB B h0 h5 (BoxA a9 T_wellspringref29_Store (storC (manL x) pw w.offs (List.replicate 64 none)) :: BoxA a4 T_api_Manifest (manL x) :: ManA x m :: RPowA pw w :: As) := H5.front1
  have hb5 := H5.box 1 rfl
  obtain ⟨lw5, hlw5, H5p⟩ := (H5.selT 4 [3, 0, 1, 2]).powOpen
  refine ⟨⟨(H5p.box 0 rfl).cell rfl, hb5.cell0 rfl, hb5.cell rfl, hb5.cell rfl, hb5.cell rfl, hb5.cell rfl, hb5.cell rfl, hb5.cell rfl, hb5.cell rfl, trivial⟩, ?_⟩
  have H5 := SpB.coreFresh (k := kitR) (h8 := by simp) (H5.selT 4 [0, 3, 1, 2])
  refine ⟨x.2.2.2.2.2.2.1, hb5.cell rfl, ?_⟩
  have hat : ∀ i (hi : i < P.length), ∃ n : Nat, n < l.length ∧ P[i] = (n : Int) ∧ 0 < l.getD n 0 := by
    subst hP; exact fun i hi => placesAt_at l l.length i hi
  rw [← newDrvs_zero l] at H5
  have hdr : ∀ {h' : Heap} {X Y : HP} {Bs : List HP}, SpB B h0 h' (X :: Y :: ManA x m :: Bs) → RdM h' x m := fun {h' X Y Bs} H' => H'.at 2 rfl
  have hxl := (hdr H5).drives.len
  rw [hmd] at hxl
  refine loop_inv (fun t : Nat × List (Option Addr) => (t.1 : Int)) (fun t h' => t.1 ≤ P.length ∧ SpB B h0 h' (CoreA kitR a9 pw (manL x) w.offs t.2 w (newDrvs l t.1) :: BoxA a4 T_api_Manifest (manL x) :: ManA x m :: As)) (fun t => P.length - t.1) (0, List.replicate 64 none) rfl ⟨by simp, H5⟩ ?_
  rintro ⟨i, da⟩ h10 ⟨hi, H10⟩
  dsimp only at *
  obtain ⟨okd, hb10⟩ := SpB.rcoreBox H10
  have hm10 := hdr H10
  have hd10 := hm10.drives
  rw [hmd] at hd10
  refine br_dec (fun e6 => ?_) (fun e6 => ?_)
  · have hi' : i < P.length := by omega
    obtain ⟨n, hn, en, hpos⟩ := hat i hi'
    have h512 := el512 n
    refine Seq.get1 (f := intv) hd10 i rfl hi' (n : Int) (by rw [en]; rfl) ?_
    refine (hS.at [_, _, _] H10).get1 n rfl hn (l.getD n 0) (by rw [getD_lt hn]; rfl) ?_
    refine ⟨a9, rfl, (rdvnew_spec (l.getD n 0) pw h10).mono ?_⟩
    rintro _ h11 ⟨Q1, _⟩
    obtain ⟨b, rfl, R11⟩ := Q1 (by omega)
    have H11 := (H10.comp1 R11).selT 4 [1, 0, 2, 3]
    refine ⟨_, rfl, trivial, ⟨by omega, by omega⟩, ?_⟩
    rw [Int.toNat_natCast, Nat.mul_one]
    have hiQ : i < (placesAt l l.length).length := by rw [← hP]; exact hi'
    have enQ : (placesAt l l.length)[i] = (n : Int) := by rw [← en]; simp only [hP]
    refine Go.Proofs.YtdoiokchdaoonaaGreat.SpB.rdrvStore n (by omega) (newDrvs_none l i n hiQ enQ (by omega)) H11 fun h12 H12 => ?_
    refine ⟨trivial, (i + 1, da.set n (some b)), by dsimp only; rw [Go.Vc.wrap_small _ (by omega) (by omega)]; rfl, ⟨by dsimp only; omega, ?_⟩, by dsimp only; omega⟩
    dsimp only
    rw [← newDrvs_succ l i n hiQ enQ (by omega)]
    exact H12
  · have hPi : i = P.length := by omega
    subst hPi
    refine ⟨x, (H10.box 1 rfl).cells0 _ rfl, x.2.2.2.2.2.2.1, (H10.box 1 rfl).cell rfl, ?_⟩
    have hHas : Has (newDrvs l P.length) P := ⟨newDrvs_len _ _, fun s hs => by
      obtain ⟨j, hj, ej⟩ := List.getElem_of_mem hs
      obtain ⟨n, hn, en, _⟩ := hat j hj
      rw [← ej, en]
      refine ⟨Drv.new (l.getD n 0).toNat, ?_⟩
      unfold dAt newDrvs
      rw [if_pos (by omega), Int.toNat_natCast, List.getElem?_map, List.getElem?_range (by omega), Option.map_some, if_pos (by rw [← hP, List.take_length, ← en]; exact List.getElem_mem hj)]; rfl⟩
    refine (rpages_spec (As := BoxA a4 T_api_Manifest (manL x) :: ManA x m :: As) x m x.2.2.2.2.2.2.1 P (St.mono (St.thing (A := ManA x m) 1 rfl fun h' hq => hq) fun h' hq => ⟨hq, by have := ManIs.drives hq; rw [hmd] at this; exact this⟩) hz (by omega) hHas H10).mono ?_
    rintro _ h14 ⟨rfl, H14⟩
    rw [← fok] at H14 ⊢
    refine ⟨_, rfl, br_ne (fun e7 => ⟨fun _ => ⟨?_, H14.rest.rest.rest⟩, fun h => absurd h e7⟩) fun e7 => ⟨fun h => absurd e7 h, fun _ => ⟨a9, x, da, rfl, ?_⟩⟩⟩
    · rcases f14 with f | f
      · exact absurd f e7
      · rw [f]
    · rw [← hm]; exact H14.drop2
end
end Go.Proofs.YtdoiokchdaoonaaGreat
namespace Go.Proofs.YtdoiokchdaoonaaGreat
open Go Go.Vc Go.Proofs Wl
set_option maxRecDepth 100000
theorem rsameMani_spec (x y : ManV) (m : Mani) (h : Heap) (hx : RdM h x m) (hy : RdM h y m) (hz : ManSz m) : Meets Tryz.prog wellspringref15_SameMani_id #[manv x, manv y] h fun v h' => v = .bool true ∧ Sp h h' [] := by
  refine wellspringref15_SameMani_run x y ?_
  unfold wellspringref15_SameMani_m
  refine (Sp.refl h).boxed fun a1 h1 H1 => ?_
  refine H1.boxed fun a2 h2 H2 => ?_
  have H2 : Sp h h2 [BoxA a1 T_api_Manifest (manL x), BoxA a2 T_api_Manifest (manL y)] := H2
  have b1 := H2.box 0 rfl
  have b2 := H2.box 1 rfl
  have hp1 : x.2.2.1 = m.p.1 := congrArg (·.1) hx.p
  have hp2 : x.2.2.2.1 = m.p.2.1 := congrArg (·.2.1) hx.p
  have hp3 : x.2.2.2.2.1 = m.p.2.2 := congrArg (·.2.2) hx.p
  have hq1 : y.2.2.1 = m.p.1 := congrArg (·.1) hy.p
  have hq2 : y.2.2.2.1 = m.p.2.1 := congrArg (·.2.1) hy.p
  have hq3 : y.2.2.2.2.1 = m.p.2.2 := congrArg (·.2.2) hy.p
  have hdl := hz.dr
  have hol := hz.ob
  have hxl := EltL.len hx.objs
  have hyl := EltL.len hy.objs
  refine join_in ⟨m.seq, by rw [← hx.seq]; exact b1.cell0 rfl, m.seq, by rw [← hy.seq]; exact b2.cell0 rfl, br_ne (fun e => absurd rfl e) fun _ => ?_⟩
  refine ⟨m.next, by rw [← hx.next]; exact b1.cell rfl, m.next, by rw [← hy.next]; exact b2.cell rfl, br_ne (fun e => absurd rfl e) fun _ => ?_⟩
  refine ⟨m.p, by rw [← hp1, ← hp2, ← hp3]; exact b1.part3 2 rfl rfl rfl, m.p, by rw [← hq1, ← hq2, ← hq3]; exact b2.part3 2 rfl rfl rfl, _, pq_neq _ _ m.p m.p, br_not (fun e => absurd e (by simp)) fun _ => ?_⟩
  refine ⟨m.extra, by rw [← hx.extra]; exact b1.cell rfl, m.extra, by rw [← hy.extra]; exact b2.cell rfl, br_ne (fun e => absurd rfl e) fun _ => ?_⟩
  refine ⟨x.2.2.2.2.2.2.1, b1.cell rfl, y.2.2.2.2.2.2.1, b2.cell rfl, (same_int_spec _ _ m.drives m.drives h2 (hx.up H2.pres).drives (hy.up H2.pres).drives (by omega)).mono ?_⟩
  rintro _ h3 ⟨rfl, rfl⟩
  refine ⟨_, rfl, br_not (fun e => absurd e (by simp)) fun _ => ⟨x.2.2.2.2.2.2.2, b1.cell rfl, y.2.2.2.2.2.2.2, b2.cell rfl, br_ne (fun e => absurd (by omega) e) fun _ => ?_⟩⟩
  refine ⟨x.2.2.2.2.2.2.2, b1.cell rfl, ?_⟩
  obtain ⟨us, F⟩ := EltL.fix hx.objs
  obtain ⟨vs, G⟩ := EltL.fix hy.objs
  have hul := F.2.1
  have hvl := G.2.1
  refine loop_inv (fun i : Nat => (i : Int)) (fun i h' => i ≤ m.objs.length ∧ Sp h h' [BoxA a1 T_api_Manifest (manL x), BoxA a2 T_api_Manifest (manL y)]) (fun i => m.objs.length - i) 0 rfl ⟨by omega, H2⟩ ?_
  rintro i h5 ⟨hi, H5⟩
  refine br_dec (fun e => ?_) (fun e => ?_)
  · have hi' : i < m.objs.length := by
      have e' : (i : Int) < (x.2.2.2.2.2.2.2.len : Int) := e
      omega
    obtain ⟨E, hE⟩ : ∃ E, E = m.objs[i] := ⟨_, rfl⟩
    have hz1 := hz.nm _ (List.getElem_mem hi')
    rw [← hE] at hz1
    obtain ⟨u, hu⟩ : ∃ u, u = us[i]'(by omega) := ⟨_, rfl⟩
    obtain ⟨v, hv⟩ : ∃ v, v = vs[i]'(by omega) := ⟨_, rfl⟩
    obtain ⟨a21, ha, zz, hc, hzz⟩ := F.1.getk (g := entv) (i := (i : Int)) i rfl (by omega) u (by rw [hu]) (K := fun t => t = u) rfl
    obtain ⟨a24, hb, zz2, hd, hzz2⟩ := G.1.getk (g := entv) (i := (i : Int)) i rfl (by omega) v (by rw [hv]) (K := fun t => t = v) rfl
    rw [hzz] at hc
    rw [hzz2] at hd
    obtain ⟨⟨u1, u2, u3⟩, u4⟩ := Fix.row F hi'
    obtain ⟨⟨v1, v2, v3⟩, v4⟩ := Fix.row G hi'
    rw [← hE, ← hu] at u1 u2 u3 u4
    rw [← hE, ← hv] at v1 v2 v3 v4
    refine join_cut (fun st h' => ∃ Bs, Sp h h' (BoxA a1 T_api_Manifest (manL x) :: BoxA a2 T_api_Manifest (manL y) :: BoxA st.1 T_api_Entry (entv u) :: BoxA st.2 T_api_Entry (entv v) :: Bs)) ?_ ?_
    · have keep : ∀ {h' : Heap} {Bs : List HP}, Sp h h' (BoxA a1 T_api_Manifest (manL x) :: BoxA a2 T_api_Manifest (manL y) :: Bs) →
          Held.ok [(a24.add ((i : Int).toNat * 4), (.string v.1)), ((a24.add ((i : Int).toNat * 4)).add 1, (.int .i64 v.2.1)), ((a24.add ((i : Int).toNat * 4)).add 2, (.int .i64 v.2.2.1)), ((a24.add ((i : Int).toNat * 4)).add 3, (.slice v.2.2.2.ptr v.2.2.2.len v.2.2.2.cap)), (a2.add 7, (.slice y.2.2.2.2.2.2.2.ptr y.2.2.2.2.2.2.2.len y.2.2.2.2.2.2.2.cap)), (a21.add ((i : Int).toNat * 4), (.string u.1)), ((a21.add ((i : Int).toNat * 4)).add 1, (.int .i64 u.2.1)), ((a21.add ((i : Int).toNat * 4)).add 2, (.int .i64 u.2.2.1)), ((a21.add ((i : Int).toNat * 4)).add 3, (.slice u.2.2.2.ptr u.2.2.2.len u.2.2.2.cap)), (a1.add 7, (.slice x.2.2.2.2.2.2.2.ptr x.2.2.2.2.2.2.2.len x.2.2.2.2.2.2.2.cap))] h' := fun {h' Bs} H' => by
        have hp := H'.pres
        exact ⟨hp.cell (lt_of_cell hd.1) hd.1, hp.cell (lt_of_cell hd.2.1) hd.2.1, hp.cell (lt_of_cell hd.2.2.1) hd.2.2.1, hp.cell (lt_of_cell hd.2.2.2.1) hd.2.2.2.1, (H'.box 1 rfl).cell rfl, hp.cell (lt_of_cell hc.1) hc.1, hp.cell (lt_of_cell hc.2.1) hc.2.1, hp.cell (lt_of_cell hc.2.2.1) hc.2.2.1, hp.cell (lt_of_cell hc.2.2.2.1) hc.2.2.2.1, (H'.box 0 rfl).cell rfl, trivial⟩
      have k5 := keep H5
      have hp := H5.pres
      refine ⟨x.2.2.2.2.2.2.2, (H5.box 0 rfl).cell rfl, a21, ha, u, ⟨hp.cell (lt_of_cell hc.1) hc.1, hp.cell (lt_of_cell hc.2.1) hc.2.1, hp.cell (lt_of_cell hc.2.2.1) hc.2.2.1, hp.cell (lt_of_cell hc.2.2.2.1) hc.2.2.2.1, trivial⟩, y.2.2.2.2.2.2.2, (H5.box 1 rfl).cell rfl, a24, hb, v, ⟨hp.cell (lt_of_cell hd.1) hd.1, hp.cell (lt_of_cell hd.2.1) hd.2.1, hp.cell (lt_of_cell hd.2.2.1) hd.2.2.1, hp.cell (lt_of_cell hd.2.2.2.1) hd.2.2.2.1, trivial⟩, ?_, ?_⟩
      · refine H5.alloc C_ok rfl fun a26 h6 H6 => ⟨keep H6, H6.alloc C_ok rfl fun a27 h7 H7 => ⟨keep H7, ?_⟩⟩
        refine H7.storeAll C_ok 2 rfl rfl (entv u) rfl rfl rfl rfl fun h8 H8 => ?_
        obtain ⟨k1, k2, k3, k4, k5, _⟩ := keep H8
        refine ⟨⟨k1, k2, k3, k4, k5, trivial⟩, H8.storeAll C_ok 3 rfl rfl (entv v) rfl rfl rfl rfl fun h9 H9 => ⟨trivial, [], H9⟩⟩
      · refine H5.alloc C_ok rfl fun a26 h6 H6 => ⟨keep H6, H6.alloc C_ok rfl fun a27 h7 H7 => ⟨keep H7, ?_⟩⟩
        refine H7.storeAll C_ok 3 rfl rfl (entv u) rfl rfl rfl rfl fun h8 H8 => ?_
        obtain ⟨k1, k2, k3, k4, k5, _⟩ := keep H8
        refine ⟨⟨k1, k2, k3, k4, k5, trivial⟩, H8.storeAll C_ok 2 rfl rfl (entv v) rfl rfl rfl rfl fun h9 H9 => ⟨trivial, [], H9.selT 4 [0, 1, 3, 2]⟩⟩
    · rintro ⟨s1, s2⟩ h9 ⟨Bs, H9⟩
      dsimp only at H9 ⊢
      have c1 := H9.box 2 rfl
      have c2 := H9.box 3 rfl
      have hlt := hz1.2
      refine ⟨E.name, by rw [← u1]; exact c1.cell0 rfl, E.name, by rw [← v1]; exact c2.cell0 rfl, br_not (fun e => absurd e (by simp)) fun _ => ?_⟩
      refine ⟨E.object, by rw [← u2]; exact c1.cell rfl, E.object, by rw [← v2]; exact c2.cell rfl, br_ne (fun e => absurd rfl e) fun _ => ?_⟩
      refine ⟨E.length, by rw [← u3]; exact c1.cell rfl, E.length, by rw [← v3]; exact c2.cell rfl, br_ne (fun e => absurd rfl e) fun _ => ?_⟩
      refine ⟨u.2.2.2, c1.cell rfl, v.2.2.2, c2.cell rfl, (same_int_spec _ _ E.tries E.tries h9 (Seq.up u4 H9.pres) (Seq.up v4 H9.pres) (by omega)).mono ?_⟩
      rintro _ h10 ⟨rfl, rfl⟩
      refine ⟨_, rfl, br_not (fun e => absurd e (by simp)) fun _ => ⟨i + 1, by rw [Go.Vc.wrap_small _ (by omega) (by omega)]; rfl, ⟨by omega, H9.selT 2 [0, 1] |>.headPart (As := [_, _])⟩, by omega⟩⟩
  · exact ⟨rfl, .zip H5.pres⟩
end Go.Proofs.YtdoiokchdaoonaaGreat
namespace Go.Proofs.YtdoiokchdaoonaaGreat
open Go Go.Vc Go.Proofs Wl
set_option maxRecDepth 100000
theorem rsameDrive_spec (s : Sl) (pw2 b : Addr) (d : Drv) (rs rb : Sl) (h : Heap) (hs : Rd2 h s 1 u8v d.l) (hb : Box h b T_wellspringref21_Drive (rdrvC pw2 d rs rb)) (hl : Rd2 h rs 1 u8v d.l) (ok : DrvOk d) :
    Meets Tryz.prog wellspringref21_SameDrive_id #[.int .i64 d.room, .int .i64 d.wait, .slice s.ptr s.len s.cap, .bool d.lost, .pointer (some b)] h fun v h' => v = .bool true ∧ h' = h := by
  refine wellspringref21_SameDrive_run d.room d.wait s d.lost (some b) ?_
  unfold wellspringref21_SameDrive_m
  have := ok.len; have := ok.room
  refine ⟨b, rfl, _, hb.cell0 rfl, br_eq (fun _ => ?_) fun e => absurd rfl e⟩
  refine ⟨b, rfl, _, hb.cell rfl, br_eq (fun _ => ?_) fun e => absurd rfl e⟩
  refine ⟨b, rfl, d.lost, hb.cell rfl, br_b (fun _ => ?_) fun e => absurd e (by simp)⟩
  refine ⟨b, rfl, rs, hb.cell rfl, (rowsB_spec s rs d.l d.l h hs hl (by omega) fun c hc => by rw [ok.cell c hc]; decide).mono ?_⟩
  rintro _ h1 ⟨rfl, rfl⟩
  exact ⟨_, rfl, by simp, rfl⟩
def wantC (d : Drv) (i : Int) : List UInt8 := if 0 ≤ i then d.l.getD i.toNat [] else []
section
variable {B B' : Blocks} {h0 h0' h h' : Heap} {As As' : List HP} {a b pw pw2 : Addr} {d : Drv}
theorem same22_spec (H : SpB B h0 h (DrvA pw a d :: As)) (H' : SpB B' h0' h (RDrvA pw2 b d :: As')) :
    Meets Tryz.prog wellspringlaw22_Same_id #[.pointer (some a), .pointer (some b)] h fun v h' => v = .bool true ∧ Sp h h' [] := by
  refine wellspringlaw22_Same_run (some a) (some b) ?_
  unfold wellspringlaw22_Same_m
  obtain ⟨s, sb, hb, hl, hsl⟩ := DrvA.box H
  obtain ⟨ok, rs, rb, hrb, hrl, hrsl⟩ := RDrvA.box H'
  have hlen := ok.len; have hroom := ok.room
  refine br_b (fun e => by cases e) fun _ => br_b (fun e => by cases e) fun _ => ⟨b, rfl, rs, hrb.cell rfl, b, rfl, rs, hrb.cell rfl, ?_⟩
  rw [Go.Vc.wrap_small ((rs.len : Int) - 1) (by omega) (by omega), hrsl]
  obtain ⟨L, hL⟩ : ∃ L : List Int, L = [-1, 0, (d.l.length : Int) - 1, (d.l.length : Int)] := ⟨_, rfl⟩
  have hLl : L.length = 4 := by rw [hL]; rfl
  refine (Sp.refl h).litHeld C_ok intv eInt rfl [-1, 0, (d.l.length : Int) - 1, (d.l.length : Int)] rfl (show 4 * 1 ≤ 2 ^ 20 by decide) rfl ⟨by rw [← hrsl]; exact hrb.cell rfl, by rw [← hrsl]; exact hrb.cell rfl, trivial⟩ ?_
  refine (Sp.refl h).lit C_ok intv eInt rfl [-1, 0, (d.l.length : Int) - 1, (d.l.length : Int)] rfl (show 4 * 1 ≤ 2 ^ 20 by decide) rfl fun v5 h1 H1 => ?_
  have H1 : Sp h h1 [OwnA T_int v5 1 intv L] := by rw [hL]; exact H1
  have hv5 := (H1.own 0 rfl).len
  refine loop_inv (fun i : Nat => (i : Int)) (fun i h' => i ≤ 4 ∧ Sp h h' [OwnA T_int v5 1 intv L]) (fun i => 4 - i) 0 rfl ⟨by omega, H1⟩ ?_
  rintro i h2 ⟨hi, H2⟩
  have hb2 := hb.pres H2.pres hb.lt
  have hrb2 := hrb.pres H2.pres hrb.lt
  have hl2 := hl.up H2.pres
  have hrl2 := hrl.up H2.pres
  refine br_dec (fun e => ?_) (fun e => ?_)
  · have hi' : i < L.length := by
      have e' : (i : Int) < (v5.len : Int) := e
      omega
    obtain ⟨x, hx⟩ : ∃ x, x = L[i] := ⟨_, rfl⟩
    have hxb : -1 ≤ x ∧ x ≤ d.l.length := by
      have : x ∈ L := by rw [hx]; exact List.getElem_mem hi'
      rw [hL] at this
      simp only [List.mem_cons, List.not_mem_nil, or_false] at this
      omega
    refine (H2.seq 0 rfl fun _ => rfl).get1 i rfl hi' x (by rw [hx]; rfl) ?_
    refine join_cut (fun r h' => h' = h2 ∧ Rd h2 r 1 u8v (wantC d x)) ?_ ?_
    · have nil_ : wantC d x = [] → Rd h2 ⟨none, 0, 0⟩ 1 u8v (wantC d x) := fun hh => by rw [hh]; exact Seq.nil _ _ _ _ _ _
      refine br_dec (fun e1 => ⟨b, rfl, rs, hrb2.cell rfl, br_dec (fun e2 => ?_) fun e2 => ⟨rfl, nil_ ?_⟩⟩) (fun e1 => ⟨rfl, nil_ ?_⟩)
      · refine ⟨b, rfl, rs, hrb2.cell rfl, hrl2.get x.toNat (by omega) (by omega) fun r hr => ⟨rfl, ?_⟩⟩
        unfold wantC
        rw [if_pos (by omega), getD_lt (show x.toNat < d.l.length by omega)]; exact hr
      · unfold wantC
        rw [if_pos (by omega), List.getD_eq_getElem?_getD, List.getElem?_eq_none (by omega)]; rfl
      · unfold wantC; rw [if_neg (by omega)]
    · rintro r _ ⟨rfl, hr⟩
      refine (read_spec s sb x hb2 hl2 ok.cell).mono ?_
      rintro _ h3 ⟨r16, rfl, R3⟩
      have hwl : (wantC d x).length ≤ 64 := by
        unfold wantC
        split
        · rw [List.getD_eq_getElem?_getD]
          cases hg : d.l[x.toNat]? with
          | none => simp
          | some c => simp [ok.cell c (List.mem_of_getElem? hg)]
        · simp
      refine ⟨r16, rfl, (sameB_spec r16 r (wantC d x) (wantC d x) h3 (R3.seq 0 rfl fun _ => rfl) (hr.up R3.pres) (by omega)).mono ?_⟩
      rintro _ h4 ⟨rfl, rfl⟩
      refine ⟨_, rfl, br_not (fun e => absurd e (by simp)) fun _ => ⟨i + 1, by rw [Go.Vc.wrap_small _ (by omega) (by omega)]; rfl, ⟨by omega, H2.up R3.pres⟩, by omega⟩⟩
  · have hrc : cellOf h2 (b.add 2) = some (.slice rs.ptr rs.len rs.cap) := hrb2.cell rfl
    refine ⟨b, rfl, rs, hrc, (dlen_spec s sb hb2 hsl).mono ?_⟩
    rintro _ _ ⟨rfl, rfl⟩
    refine ⟨_, rfl, ⟨hrc, trivial⟩, br_eq (fun _ => ?_) fun e => absurd (by omega) e⟩
    refine (room_spec s sb hb2).mono ?_
    rintro _ _ ⟨rfl, rfl⟩
    refine ⟨_, rfl, ⟨hrc, trivial⟩, (pend_spec s sb hb2).mono ?_⟩
    rintro _ h5 ⟨rfl, rfl⟩
    refine ⟨_, rfl, ⟨hrc, trivial⟩, (all_spec s sb hb2 hl2 ok).mono ?_⟩
    rintro _ h6 ⟨r, rfl, R6⟩
    have hb6 := hb2.pres R6.pres hb2.lt
    have hrb6 := hrb2.pres R6.pres hrb2.lt
    have hrc6 : cellOf h6 (b.add 2) = some (.slice rs.ptr rs.len rs.cap) := hrb6.cell rfl
    refine ⟨r, rfl, ⟨hrc6, trivial⟩, (lost_spec s sb hb6).mono ?_⟩
    rintro _ h7 ⟨rfl, rfl⟩
    refine ⟨_, rfl, ⟨hrc6, trivial⟩, (rsameDrive_spec r pw2 b d rs rb h7 (SpB.wRd R6 fun _ => rfl) hrb6 (hrl2.up R6.pres) ok).mono ?_⟩
    rintro _ h8 ⟨rfl, rfl⟩
    exact ⟨_, rfl, ⟨hrc6, trivial⟩, rfl, .zip (up H2.pres R6.pres)⟩
theorem same22Nil_spec (h : Heap) : Meets Tryz.prog wellspringlaw22_Same_id #[.pointer none, .pointer none] h fun v h' => v = .bool true ∧ Sp h h' [] := by
  refine wellspringlaw22_Same_run none none ?_
  unfold wellspringlaw22_Same_m
  exact br_b (fun e => by cases e) fun _ => br_b (fun _ => ⟨rfl, Sp.refl h⟩) fun e => by cases e
end
end Go.Proofs.YtdoiokchdaoonaaGreat
namespace Go.Proofs.YtdoiokchdaoonaaGreat
open Go Go.Vc Go.Proofs Wl
section
set_option maxRecDepth 20000
variable {B : Blocks} {h0 h : Heap} {As : List HP} {a a2 pw pw2 : Addr} {mc : List Value} {offs : Int} {da da2 : List (Option Addr)} {w : Pow} {ds : Drvs}
theorem rstoreLive_spec (x : ManV) (m : Mani) (hx : RdM h x m) (hz : ManSz m) (hin : ∀ y ∈ m.drives, 0 ≤ y ∧ y < 64) (H : SpB B h0 h (CoreA kitR a pw (manL x) offs da w ds :: As)) :
    Meets Tryz.prog wellspringref29_Store_Live_id #[.pointer (some a)] h fun v h' => ∃ r : Sl, v = .slice r.ptr r.len r.cap ∧ Sp h h' [OwnA T_int r 1 intv (liveOf ds m.drives)] := by
  refine wellspringref29_Store_Live_run (some a) ?_
  unfold wellspringref29_Store_Live_m
  obtain ⟨ok, hb⟩ := SpB.rcoreBox H
  have hdr := hz.dr
  refine ⟨a, rfl, x.2.2.2.2.2.2.1, hb.cell rfl, (rlive_spec _ m.drives hx.drives (by omega) hin H).mono ?_⟩
  rintro _ h1 ⟨r, rfl, R1⟩
  exact ⟨r, rfl, r, rfl, R1⟩
theorem SpB.rcorePow (H : SpB B h0 h (CoreA kitR a pw mc offs da w ds :: As)) : ∃ l, PowOk w l ∧ Box h pw T_wellspringref21_Power (powC w l) := by
  obtain ⟨ok, H1⟩ := Go.Vc.SpB.coreOpen H
  have H2 := H1.rest
  obtain ⟨l, hl, H3⟩ := SpB.powOpen H2
  exact ⟨l, hl, H3.box 0 rfl⟩
theorem rstoreDown_spec (H : SpB B h0 h (CoreA kitR a pw mc offs da w ds :: As)) :
    Meets Tryz.prog wellspringref29_Store_Down_id #[.pointer (some a)] h fun v h' => v = .bool (downP w offs) ∧ h' = h := by
  refine wellspringref29_Store_Down_run (some a) ?_
  unfold wellspringref29_Store_Down_m
  obtain ⟨ok, hb⟩ := SpB.rcoreBox H
  obtain ⟨l, hl, hp⟩ := SpB.rcorePow H
  have c8 : cellOf h (a.add 8) = some (.pointer (some pw)) := hb.cell (storC_pw ok.l8)
  have c9 : cellOf h (a.add 9) = some (.int .i64 offs) := hb.cell (storC_offs ok.l8)
  refine ⟨a, rfl, some pw, c8, pw, rfl, w.off, hp.cell0 rfl, br_b (fun e => ⟨by unfold downP; rw [e]; rfl, rfl⟩) fun e => ?_⟩
  refine ⟨a, rfl, some pw, c8, pw, rfl, w.offs, hp.cell rfl, a, rfl, offs, c9, by unfold downP; rw [e]; rfl, rfl⟩
theorem same29_spec (x x2 : ManV) (m : Mani) (hx : RdM h x m) (hx2 : RdM h x2 m) (hz : ManSz m) (hin : ∀ y ∈ m.drives, 0 ≤ y ∧ y < 64) {offs2 : Int} (hoffs : offs2 = offs)
    (H : SpB B h0 h (CoreA kitC a pw (manL x) offs da w ds :: CoreA kitR a2 pw2 (manL x2) offs2 da2 w ds :: As)) :
    Meets Tryz.prog wellspringlaw29_Same_id #[.pointer (some a), .pointer (some a2)] h fun v h' => v = .bool true ∧ Sp h h' [] := by
  subst hoffs
  refine wellspringlaw29_Same_run (some a) (some a2) ?_
  unfold wellspringlaw29_Same_m
  have HR := H.swap01
  refine br_b (fun e => by cases e) fun _ => br_b (fun e => by cases e) fun _ => ?_
  obtain ⟨ok, hb⟩ := SpB.coreBox H
  obtain ⟨ok2, hb2⟩ := SpB.rcoreBox HR
  obtain ⟨l2, hl2, hp2⟩ := SpB.rcorePow HR
  obtain ⟨l1, hl1, hp1⟩ := SpB.corePow H
  have hdl := hz.dr
  refine join_cut (fun _ h' => Sp h h' []) ?_ ?_
  · refine ⟨a2, rfl, x2, hb2.cells0 _ rfl, (storeMani_spec x m hx hz H).mono ?_⟩
    rintro _ h1 ⟨y, rfl, R1⟩
    have b1 := hb2.pres R1.pres hb2.lt
    refine ⟨y, rfl, ⟨b1.cell0 rfl, b1.cell rfl, b1.cell rfl, b1.cell rfl, b1.cell rfl, b1.cell rfl, b1.cell rfl, b1.cell rfl, trivial⟩, ?_⟩
    refine (rsameMani_spec y x2 m h1 (R1.at 0 rfl) (hx2.up R1.pres) hz).mono ?_
    rintro _ h2 ⟨rfl, R2⟩
    have P2 := up R1.pres R2.pres
    refine ⟨true, rfl, trivial, br_not (fun e => by cases e) fun _ => ?_⟩
    refine (storeLive_spec x m (hx.up P2) hz (SpB.up H P2)).mono ?_
    rintro _ h3 ⟨r5, rfl, R3⟩
    have P3 := up P2 R3.pres
    refine ⟨r5, rfl, trivial, (rstoreLive_spec x2 m (hx2.up P3) hz hin (SpB.up HR P3)).mono ?_⟩
    rintro _ h4 ⟨r6, rfl, R4⟩
    have P4 := up P3 R4.pres
    have hll : (liveOf ds m.drives).length ≤ m.drives.length := List.length_filter_le _ _
    refine ⟨r6, rfl, trivial, (same_int_spec r5 r6 _ _ h4 ((R3.seq 0 rfl fun _ => rfl).up R4.pres) (R4.seq 0 rfl fun _ => rfl) (by omega)).mono ?_⟩
    rintro _ h5 ⟨rfl, rfl⟩
    refine ⟨_, rfl, trivial, br_not (fun e => absurd e (by simp)) fun _ => ?_⟩
    refine (storeDown_spec (SpB.up H P4)).mono ?_
    rintro _ h6 ⟨rfl, rfl⟩
    refine ⟨_, rfl, trivial, (rstoreDown_spec (SpB.up HR P4)).mono ?_⟩
    rintro _ h7 ⟨rfl, rfl⟩
    refine ⟨_, rfl, trivial, br_not (fun e => absurd e (by simp)) fun _ => ?_⟩
    have c8 : cellOf h7 (a2.add 8) = some (.pointer (some pw2)) := (hb2.pres P4 hb2.lt).cell (storC_pw ok2.l8)
    have hp2' := hp2.pres P4 hp2.lt
    have c0 : cellOf h7 pw2 = some (.bool w.off) := hp2'.cell0 rfl
    have c3 : cellOf h7 (pw2.add 3) = some (.int .i64 w.offs) := hp2'.cell rfl
    have hp1' := hp1.pres P4 hp1.lt
    refine (storePow_spec (SpB.up H P4)).mono ?_
    rintro _ _ ⟨rfl, rfl⟩
    refine ⟨_, rfl, trivial, br_b (fun e => by cases e) fun _ => ?_⟩
    refine ⟨a2, rfl, some pw2, c8, pw2, rfl, w.off, c0, (storePow_spec (SpB.up H P4)).mono ?_⟩
    rintro _ _ ⟨rfl, rfl⟩
    refine ⟨_, rfl, ⟨c0, c8, trivial⟩, (on_spec l1 hp1').mono ?_⟩
    rintro _ _ ⟨rfl, rfl⟩
    refine ⟨_, rfl, ⟨c0, c8, trivial⟩, br_b (fun e => absurd e (by cases w.off <;> decide)) fun _ => ?_⟩
    refine ⟨a2, rfl, some pw2, c8, pw2, rfl, w.offs, c3, (storePow_spec (SpB.up H P4)).mono ?_⟩
    rintro _ _ ⟨rfl, rfl⟩
    refine ⟨_, rfl, ⟨c3, c8, c0, c8, trivial⟩, (offs_spec l1 hp1').mono ?_⟩
    rintro _ _ ⟨rfl, rfl⟩
    exact ⟨_, rfl, ⟨c3, c8, c0, c8, trivial⟩, br_ne (fun e => absurd rfl e) fun _ => .zip P4⟩
  · rintro _ h13 R13
    refine loop_inv (fun i : Nat => (i : Int)) (fun i h' => i ≤ 64 ∧ Sp h h' []) (fun i => 64 - i) 0 rfl ⟨by omega, R13⟩ ?_
    rintro i h14 ⟨hi, R14⟩
    have hb' := hb.pres R14.pres hb.lt
    have hb2' := hb2.pres R14.pres hb2.lt
    refine br_dec (fun e => ?_) (fun e => ?_)
    · have hi' : i < 64 := by omega
      obtain ⟨p, hp, hp'⟩ := rptr ok2 hb2' i hi'
      refine ⟨a2, rfl, ⟨by omega, by omega⟩, p, by rw [Int.toNat_natCast]; exact hp, (sdrive_spec (i : Int) ok hb').mono ?_⟩
      rintro _ _ ⟨rfl, rfl⟩
      refine ⟨_, rfl, ⟨by rw [Int.toNat_natCast]; exact hp, trivial⟩, ?_⟩
      have next : ∀ {h' : Heap}, Sp h h' [] → ∃ t' : Nat, IntKind.wrap .i64 ((i : Int) + 1) = (t' : Int) ∧ (t' ≤ 64 ∧ Sp h h' []) ∧ 64 - t' < 64 - i := fun R => ⟨i + 1, by rw [Go.Vc.wrap_small _ (by omega) (by omega)]; rfl, ⟨by omega, R⟩, by omega⟩
      have Hc := SpB.up H R14.pres
      have HcR := SpB.up HR R14.pres
      rcases at_cases ok (i : Int) with ⟨c1, c2⟩ | ⟨n, d, b, c0, c1, c2, c3, c4, c5⟩
      · rcases at_cases ok2 (i : Int) with ⟨g1, g2⟩ | ⟨n, d, b, g0, g1, g2, g3, g4, g5⟩
        · have : p = none := by
            unfold dptr at g2
            rw [if_pos (by omega), Int.toNat_natCast, hp'] at g2; exact g2
          subst this
          rw [c2]
          refine (same22Nil_spec _).mono ?_
          rintro _ h16 ⟨rfl, R16⟩
          exact ⟨true, rfl, trivial, br_not (fun e => by cases e) fun _ => next (SpB.up R14 R16.pres)⟩
        · rw [c1] at g3; cases g3
      · have c0 : i = n := by omega
        subst c0
        rw [c5]
        obtain ⟨b', hb', H5⟩ := Go.Vc.SpB.coreDrive Hc c2
        rw [c4] at hb'
        injection hb' with hb'
        injection hb' with hb'
        subst hb'
        obtain ⟨b2, hb2', H6⟩ := Go.Vc.SpB.coreDrive HcR c2
        rw [hp'] at hb2'
        injection hb2' with hb2'
        subst hb2'
        refine (same22_spec H5 H6).mono ?_
        rintro _ h16 ⟨rfl, R16⟩
        exact ⟨true, rfl, trivial, br_not (fun e => by cases e) fun _ => next (SpB.up R14 R16.pres)⟩
    · refine (sdrive_spec (-1) ok hb').mono ?_
      rintro _ _ ⟨rfl, rfl⟩
      have e1 : dptr da (-1) = none := by unfold dptr; rw [if_neg (by decide)]
      rw [e1]
      refine ⟨_, rfl, br_b (fun _ => ?_) fun e => by cases e⟩
      refine (sdrive_spec 64 ok hb').mono ?_
      rintro _ _ ⟨rfl, rfl⟩
      have e2 : dptr da 64 = none := by unfold dptr; rw [if_neg (by decide)]
      rw [e2]
      exact ⟨_, rfl, rfl, R14⟩
theorem same29Nil_spec (h : Heap) : Meets Tryz.prog wellspringlaw29_Same_id #[.pointer none, .pointer none] h fun v h' => v = .bool true ∧ Sp h h' [] := by
  refine wellspringlaw29_Same_run none none ?_
  unfold wellspringlaw29_Same_m
  exact br_b (fun e => by cases e) fun _ => br_b (fun _ => ⟨rfl, Sp.refl h⟩) fun e => by cases e
end
end Go.Proofs.YtdoiokchdaoonaaGreat
namespace Go.Vc
open Go Wl Go.Proofs.YtdoiokchdaoonaaGreat
def numP (l : List Int) (k : Nat) : Int := l.getD k 0
def cfgP (l : List Int) : Pm := smallP (numP l 0) (numP l 1) (numP l 2)
def cfgN (l : List Int) : Nat := (2 + numP l 4 % 4).toNat
def cfgC (l : List Int) : List Int := (List.range (cfgN l)).map fun i => 8 + numP l (5 + i) % 50
def cfgE (l : List Int) : Int := numP l 3 % 7
theorem cfgN_le (l : List Int) : 2 ≤ cfgN l ∧ cfgN l ≤ 5 := by unfold cfgN; omega
theorem cfgC_len (l : List Int) : (cfgC l).length = cfgN l := by simp [cfgC]
end Go.Vc
namespace Go.Proofs.YtdoiokchdaoonaaGreat
open Go Go.Vc Go.Proofs Wl
section
set_option maxRecDepth 20000
variable {B : Blocks} {h0 h : Heap} {As : List HP} {a pw : Addr} {offs : Int} {da : List (Option Addr)} {w : Pow} {ds : Drvs}
theorem num_spec (s : Sl) (l : List Int) (k : Nat) (h : Heap) (hs : Rd h s 1 intv l) : Meets Tryz.prog wellspringplay_Num_id #[.slice s.ptr s.len s.cap, .int .i64 k] h fun v h' => v = .int .i64 (numP l k) ∧ h' = h := by
  refine wellspringplay_Num_run s k ?_
  unfold wellspringplay_Num_m numP
  have hl := hs.len
  refine br_dec (fun e => ?_) (fun e => ⟨?_, rfl⟩)
  · have hk : k < l.length := by omega
    refine hs.get1 k rfl hk (l.getD k 0) (by rw [getD_lt hk]; rfl) ⟨rfl, rfl⟩
  · rw [List.getD_eq_getElem?_getD, List.getElem?_eq_none (by omega)]; rfl
theorem config_spec (s : Sl) (l : List Int) (h : Heap) (hs : Rd h s 1 intv l) : Meets Tryz.prog wellspringplay_Config_id #[.slice s.ptr s.len s.cap] h fun v h' => ∃ r : Sl, v = .tuple #[pmv (cfgP l), .int .i64 (cfgE l), .slice r.ptr r.len r.cap] ∧ Sp h h' [OwnA T_int r 1 intv (cfgC l)] := by
  refine wellspringplay_Config_run s ?_
  unfold wellspringplay_Config_m
  refine (Sp.refl h).alloc C_ok rfl fun a1 h1 H1 => ?_
  have hs1 := hs.up H1.pres
  refine (num_spec s l 0 h1 hs1).mono ?_
  rintro _ _ ⟨rfl, rfl⟩
  refine ⟨_, rfl, (num_spec s l 1 _ hs1).mono ?_⟩
  rintro _ _ ⟨rfl, rfl⟩
  refine ⟨_, rfl, (num_spec s l 2 _ hs1).mono ?_⟩
  rintro _ h4 ⟨rfl, rfl⟩
  refine ⟨_, rfl, (small_spec _ _ _ h4).mono ?_⟩
  rintro _ h5 ⟨rfl, R5⟩
  have H5 := H1.up R5.pres
  refine ⟨cfgP l, rfl, ?_⟩
  refine H5.alloc C_ok rfl fun a6 h6 H6 => ?_
  refine H6.storeAll C_ok 1 rfl rfl [.int .i64 (cfgP l).1, .int .i64 (cfgP l).2.1, .int .i64 (cfgP l).2.2] rfl rfl rfl rfl fun h7 H7 => ?_
  have H7 : Sp h h7 [OwnA T_int ⟨none, 0, 0⟩ 1 intv ((cfgC l).take 0), BoxA a6 T_api_Params [.int .i64 (cfgP l).1, .int .i64 (cfgP l).2.1, .int .i64 (cfgP l).2.2], BoxA a1 T_api_Params [.int .i64 0, .int .i64 0, .int .i64 0]] := (H7.nil T_int 1 intv).sel [2, 1, 0]
  have hn := cfgN_le l
  have hcl := cfgC_len l
  refine loop_inv (fun t : Sl × Nat => (t.1, (t.2 : Int))) (fun t h' => t.2 ≤ cfgN l ∧ Sp h h' [OwnA T_int t.1 1 intv ((cfgC l).take t.2), BoxA a6 T_api_Params [.int .i64 (cfgP l).1, .int .i64 (cfgP l).2.1, .int .i64 (cfgP l).2.2], BoxA a1 T_api_Params [.int .i64 0, .int .i64 0, .int .i64 0]]) (fun t => cfgN l - t.2) (⟨none, 0, 0⟩, 0) rfl ⟨by simp, H7⟩ ?_
  rintro ⟨o, i⟩ h8 ⟨hi, H8⟩
  dsimp only at *
  have hs8 := hs.up H8.pres
  refine (num_spec s l 4 h8 hs8).mono ?_
  rintro _ _ ⟨rfl, rfl⟩
  refine ⟨_, rfl, (within_spec _ 4 _ (by decide) (by decide)).mono ?_⟩
  rintro _ h8 ⟨rfl, rfl⟩
  refine ⟨_, rfl, ?_⟩
  have hb := H8.box 1 rfl
  dsimp only
  rw [Go.Vc.wrap_small (2 + numP l 4 % 4) (by omega) (by omega)]
  have ecn : 2 + numP l 4 % 4 = (cfgN l : Int) := by unfold cfgN; omega
  rw [ecn]
  refine br_dec (fun e => ?_) (fun e => ?_)
  · have hi' : i < cfgN l := by omega
    rw [Go.Vc.wrap_small ((5 : Int) + i) (by omega) (by omega)]
    have e5 : (5 : Int) + i = ((5 + i : Nat) : Int) := by omega
    rw [e5]
    refine (num_spec s l (5 + i) h8 hs8).mono ?_
    rintro _ _ ⟨rfl, rfl⟩
    refine ⟨_, rfl, (within_spec _ 50 _ (by decide) (by decide)).mono ?_⟩
    rintro _ h12 ⟨rfl, rfl⟩
    refine ⟨_, rfl, ?_⟩
    dsimp only
    rw [Go.Vc.wrap_small (8 + numP l (5 + i) % 50) (by omega) (by omega)]
    refine H8.push C_ok 0 rfl eInt rfl (by decide) (fun _ => rfl) one_int (8 + numP l (5 + i) % 50) rfl (by decide) (by simp; omega) fun o' h13 H13 => ?_
    refine ⟨(o', i + 1), by dsimp only; rw [Go.Vc.wrap_small _ (by omega) (by omega)]; rfl, ⟨by dsimp only; omega, ?_⟩, by dsimp only; omega⟩
    dsimp only
    rw [take_snoc _ _ (show i < (cfgC l).length by omega)]
    have e6 : (cfgC l)[i]'(by omega) = 8 + numP l (5 + i) % 50 := by simp [cfgC]
    rw [e6]; exact H13
  · have hin : i = cfgN l := by omega
    subst hin
    rw [List.take_of_length_le (by omega)] at H8
    have hc : Held.ok [(a6, (.int .i64 (cfgP l).1)), (a6.add 1, (.int .i64 (cfgP l).2.1)), (a6.add 2, (.int .i64 (cfgP l).2.2))] h8 := ⟨hb.cell0 rfl, hb.cell rfl, hb.cell rfl, trivial⟩
    refine ⟨cfgP l, hb.cells0 _ rfl, (num_spec s l 3 h8 hs8).mono ?_⟩
    rintro _ _ ⟨rfl, rfl⟩
    refine ⟨_, rfl, hc, (within_spec _ 7 _ (by decide) (by decide)).mono ?_⟩
    rintro _ h16 ⟨rfl, rfl⟩
    refine ⟨_, rfl, hc, ?_⟩
    refine H8.storeAll C_ok 2 rfl rfl [.int .i64 (cfgP l).1, .int .i64 (cfgP l).2.1, .int .i64 (cfgP l).2.2] rfl rfl rfl rfl fun h17 H17 => ⟨trivial, ?_⟩
    exact ⟨cfgP l, (H17.box 2 rfl).cells0 _ rfl, o, rfl, H17.sel [0]⟩
theorem listNone_spec (x : ManV) (m : Mani) (hx : RdM h x m) (ho : m.objs = []) (H : SpB B h0 h (CoreA kitC a pw (manL x) offs da w ds :: As)) :
    Meets Tryz.prog store_Store_List_id #[.pointer (some a)] h fun v h' => v = .slice none 0 0 ∧ h' = h := by
  refine store_Store_List_run (some a) ?_
  unfold store_Store_List_m
  obtain ⟨ok, hb⟩ := SpB.coreBox H
  refine (store_Store_out_run (some a) (R := fun v h' => v = .bool (downP w offs) ∧ h' = h) ?_).mono ?_
  · unfold store_Store_out_m
    refine br_b (fun e => by cases e) fun _ => (storeDown_spec H).mono ?_
    rintro _ _ ⟨rfl, rfl⟩
    exact ⟨_, rfl, rfl, rfl⟩
  rintro _ _ ⟨rfl, rfl⟩
  refine ⟨_, rfl, br_b (fun _ => ⟨rfl, rfl⟩) fun _ => ⟨a, rfl, x.2.2.2.2.2.2.2, hb.cell rfl, ?_⟩⟩
  have hl := EltL.len hx.objs
  rw [ho] at hl
  refine loop_inv (fun _ : Unit => ((⟨none, 0, 0⟩ : Sl), (0 : Int))) (fun _ h' => h' = _) (fun _ => 0) () rfl rfl ?_
  rintro _ h1 rfl
  exact br_dec (fun e => absurd e (by rw [hl]; decide)) fun _ => ⟨rfl, rfl⟩
theorem wakes_ok : (formatP (1, 1, 1) 0 Pow.new [5]).1 = 0 := by decide +kernel
theorem wakes_live : (liveOf (formatP (1, 1, 1) 0 Pow.new [5]).2.2 (newMani (1, 1, 1) 0 [5]).drives).length = 1 := by decide +kernel
theorem wakes29_spec (h : Heap) : Meets Tryz.prog wellspringlaw29_wakes_id #[] h fun v h' => v = .bool true ∧ Sp h h' [] := by
  refine wellspringlaw29_wakes_run ?_
  unfold wellspringlaw29_wakes_m
  refine (pnew_spec h).mono ?_
  rintro _ h1 ⟨pw, rfl, R1⟩
  refine ⟨_, rfl, ?_⟩
  refine R1.lit C_ok intv eInt rfl [5] rfl (show 1 * 1 ≤ 2 ^ 20 by decide) rfl fun s2 h2 H2 => ?_
  refine (format_spec (1, 1, 1) 0 s2 [5] (As := [OwnA T_int s2 1 intv [5]]) (St.thing 0 rfl fun h' hq => hq.1.seq (fun _ => rfl) hq.2) (by decide) H2).mono ?_
  rintro _ h3 ⟨_, Q⟩
  obtain ⟨a, x, da, rfl, H3⟩ := Q wakes_ok
  have hz : ManSz (newMani (1, 1, 1) 0 [5]) := newMani_sz _ _ _ (by decide)
  have hx : RdM h3 x (newMani (1, 1, 1) 0 [5]) := H3.at 1 rfl
  refine ⟨(some a, 0), rfl, br_eq (fun _ => br_b (fun _ => ?_) fun e => by cases e) fun e => absurd rfl e⟩
  refine (listNone_spec x _ hx rfl H3).mono ?_
  rintro _ _ ⟨rfl, rfl⟩
  refine ⟨⟨none, 0, 0⟩, rfl, br_eq (fun _ => ?_) fun e => absurd rfl e⟩
  refine (storeLive_spec x _ hx hz H3).mono ?_
  rintro _ h4 ⟨r, rfl, R4⟩
  have hr := (R4.own 0 rfl).len
  rw [wakes_live] at hr
  refine ⟨r, rfl, ?_, .zip (SpB.up H3 R4.pres).pres⟩
  rw [hr]; rfl
end
end Go.Proofs.YtdoiokchdaoonaaGreat
namespace Go.Proofs.YtdoiokchdaoonaaGreat
open Go Go.Vc Go.Proofs Wl
section
set_option maxRecDepth 20000
theorem SpB.withEmp {B : Blocks} {h0 h : Heap} {As : List HP} (H : SpB B h0 h As) : SpB B h0 h (emp :: As) := (H.comp (.one (A := emp) (Pres.refl _ _) trivial)).front1
theorem newMani_in {p : Pm} {extra : Int} {l : List Int} (hl : l.length ≤ 64) : ∀ y ∈ (newMani p extra l).drives, 0 ≤ y ∧ y < 64 := fun y hy => by
  obtain ⟨n, hn, rfl, _⟩ := (placesAt_mem l l.length y).1 hy
  omega
theorem formatP_ok {p : Pm} {extra : Int} {w : Pow} {l : List Int} (h : (formatP p extra w l).1 = 0) : l.length ≤ 64 := by
  rw [formatP_eq] at h
  by_cases e0 : mayE p extra l = 0
  · exact (placesP_ok (newMani_ok e0).2.2.2.1).2.1
  · rw [if_neg e0] at h; exact absurd h e0
abbrev pmL (p : Pm) : List Value := [.int .i64 p.1, .int .i64 p.2.1, .int .i64 p.2.2]
theorem storeFormats_spec (p : Pm) (extra : Int) (s2 : Sl) (l2 : List Int) (s3 : Sl) (l3 : List Int) (fuse : Int) (h : Heap) (hs2 : Rd h s2 1 intv l2) (hs3 : Rd h s3 1 intv l3) :
    Meets Tryz.prog wellspringlaw29_StoreFormats_id #[pmv p, .int .i64 extra, .slice s2.ptr s2.len s2.cap, .slice s3.ptr s3.len s3.cap, .int .i64 fuse] h fun v h' => v = .bool true ∧ Sp h h' [] := by
  refine wellspringlaw29_StoreFormats_run p extra s2 s3 fuse ?_
  unfold wellspringlaw29_StoreFormats_m
  have h2l := hs2.len
  refine (Sp.refl h).boxed fun a1 h1 H1 => br_dec (fun e => ?_) fun e => ?_
  · refine (wakes29_spec h1).mono ?_
    rintro _ h2 ⟨rfl, R2⟩
    exact ⟨true, rfl, rfl, .zip (SpB.up H1 R2.pres).pres⟩
  refine (config_spec s3 l3 h1 (hs3.up H1.pres)).mono ?_
  rintro _ h3 ⟨r, rfl, R3⟩
  refine ⟨(cfgP l3, cfgE l3, r), rfl, ?_⟩
  have H3 := H1.comp R3
  refine H3.alloc C_ok rfl fun a4 h4 H4 => ?_
  refine H4.storeAll C_ok 2 rfl rfl (pmL (cfgP l3)) rfl rfl rfl rfl fun h5 H5 => ?_
  have hcl := cfgC_len l3
  have hcn := cfgN_le l3
  have H5 : Sp h h5 [BoxA a1 T_api_Params (pmL p), BoxA a4 T_api_Params (pmL (cfgP l3)), OwnA T_int r 1 intv (cfgC l3)] := H5.sel [0, 2, 1]
  refine loop_inv (fun i : Nat => (i : Int)) (fun i h' => i ≤ 6 ∧ Sp h h' [BoxA a1 T_api_Params (pmL p), BoxA a4 T_api_Params (pmL (cfgP l3)), OwnA T_int r 1 intv (cfgC l3)]) (fun i => 6 - i) 0 rfl ⟨by omega, H5⟩ ?_
  rintro i h6 ⟨hi, H6⟩
  dsimp only
  refine br_dec (fun e6 => ?_) (fun e6 => ?_)
  · have hi' : i < 6 := by omega
    refine ⟨cfgP l3, (H6.box 1 rfl).cells0 _ rfl, H6.alloc C_ok rfl fun a7 h7 H7 => ?_⟩
    refine H7.storeAll C_ok 3 rfl rfl (pmL (cfgP l3)) rfl rfl rfl rfl fun h8 H8 => ?_
    have H8 : Sp h h8 [BoxA a7 T_api_Params (pmL (cfgP l3)), BoxA a1 T_api_Params (pmL p), BoxA a4 T_api_Params (pmL (cfgP l3)), OwnA T_int r 1 intv (cfgC l3)] := H8.front1
    have few : ∀ Z : HP, St (fun b => b < h.size) h (Z :: [BoxA a1 T_api_Params (pmL p), BoxA a4 T_api_Params (pmL (cfgP l3)), OwnA T_int r 1 intv (cfgC l3)]) fun h => Rd h r 1 intv (cfgC l3) := fun Z => St.thing 3 rfl fun h' hq => hq.1.seq (fun _ => rfl) hq.2
    have H8e : Sp h h8 [BoxA a7 T_api_Params (pmL (cfgP l3)), emp, BoxA a1 T_api_Params (pmL p), BoxA a4 T_api_Params (pmL (cfgP l3)), OwnA T_int r 1 intv (cfgC l3)] := (SpB.withEmp H8).selT 2 [1, 0]
    refine join_cut (fun (st : Int × Sl) h' => ∃ (x : Pm) (lz : List Int) (Z : HP), lz.length ≤ 100 ∧ St (fun b => b < h.size) h (Z :: [BoxA a1 T_api_Params (pmL p), BoxA a4 T_api_Params (pmL (cfgP l3)), OwnA T_int r 1 intv (cfgC l3)]) (fun h => Rd h st.2 1 intv lz) ∧ Sp h h' (BoxA a7 T_api_Params (pmL x) :: Z :: [BoxA a1 T_api_Params (pmL p), BoxA a4 T_api_Params (pmL (cfgP l3)), OwnA T_int r 1 intv (cfgC l3)])) ?_ ?_
    · refine br_eq (fun c1 => ?_) fun c1 => br_eq (fun c2 => ?_) fun c2 => br_eq (fun c3 => ?_) fun c3 => br_eq (fun c4 => ?_) fun c4 => br_eq (fun c5 => ?_) fun c5 => ?_
      · refine ⟨p, (H8.box 1 rfl).cells0 _ rfl, ?_⟩
        refine H8e.storeAll C_ok 0 rfl rfl (pmL p) rfl rfl rfl rfl fun h9 H9 => ⟨p, cfgC l3, emp, by omega, few emp, H9⟩
      · exact ⟨cfgP l3, cfgC l3, emp, by omega, few emp, H8e⟩
      · exact ⟨cfgP l3, l2, emp, by omega, St.base hs2 fun h' hp => hs2.up hp, H8e⟩
      · refine (H8.nil T_int 1 intv).front1.append C_ok 0 rfl eInt ⟨_, _, rfl, rfl⟩ rfl (by decide) (fun _ => rfl) ((H8.nil T_int 1 intv).front1.seq 4 rfl fun _ => rfl) one_int (by simp; omega) fun v9 h10 H10 => ?_
        refine (within_spec fuse 3 h10 (by decide) (by decide)).mono ?_
        rintro _ h11 ⟨rfl, rfl⟩
        refine ⟨_, rfl, ?_⟩
        refine H10.push C_ok 0 rfl eInt rfl (by decide) (fun _ => rfl) one_int (IntKind.wrap .i64 (1 + fuse % 3)) rfl (by decide) (by simp; omega) fun v12 h13 H13 => ?_
        have H13 : Sp h h13 [OwnA T_int v12 1 intv (([] ++ cfgC l3) ++ [IntKind.wrap .i64 (1 + fuse % 3)]), BoxA a7 T_api_Params (pmL (cfgP l3)), BoxA a1 T_api_Params (pmL p), BoxA a4 T_api_Params (pmL (cfgP l3)), OwnA T_int r 1 intv (cfgC l3)] := H13
        exact ⟨cfgP l3, _, OwnA T_int v12 1 intv (([] ++ cfgC l3) ++ [IntKind.wrap .i64 (1 + fuse % 3)]), by simp; omega, St.thing 0 rfl fun h' hq => hq.1.seq (fun _ => rfl) hq.2, H13.selT 2 [1, 0]⟩
      · refine H8.lit C_ok intv eInt rfl [0, 0] rfl (show 2 * 1 ≤ 2 ^ 20 by decide) rfl fun v13 h14 H14 => ?_
        have H14 := H14.front1
        refine H14.append C_ok 0 rfl eInt ⟨_, _, rfl, rfl⟩ rfl (by decide) (fun _ => rfl) (H14.seq 4 rfl fun _ => rfl) one_int (by simp; omega) fun v14 h15 H15 => ?_
        have H15 : Sp h h15 [OwnA T_int v14 1 intv ([0, 0] ++ cfgC l3), BoxA a7 T_api_Params (pmL (cfgP l3)), BoxA a1 T_api_Params (pmL p), BoxA a4 T_api_Params (pmL (cfgP l3)), OwnA T_int r 1 intv (cfgC l3)] := H15
        exact ⟨cfgP l3, _, OwnA T_int v14 1 intv ([0, 0] ++ cfgC l3), by simp; omega, St.thing 0 rfl fun h' hq => hq.1.seq (fun _ => rfl) hq.2, H15.selT 2 [1, 0]⟩
      · exact ⟨cfgP l3, cfgC l3, emp, by omega, few emp, H8e⟩
    · rintro ⟨y, z⟩ h16 ⟨x, lz, Z, hlz, hSt, H16⟩
      dsimp only at hSt ⊢
      refine (pnew_spec h16).mono ?_
      rintro _ h17 ⟨pw, rfl, R17⟩
      have H17 := H16.comp1 R17
      refine ⟨_, rfl, H17.boxed fun pw2 h18 H18 => ?_⟩
      have H18 : Sp h h18 (RPowA pw2 Pow.new :: PowA T_power_Power pw Pow.new :: BoxA a7 T_api_Params (pmL x) :: Z :: [BoxA a1 T_api_Params (pmL p), BoxA a4 T_api_Params (pmL (cfgP l3)), OwnA T_int r 1 intv (cfgC l3)]) := SpB.powClose (l := 0) (w := Pow.new) (fun k e => by cases e) H18.front1
      refine join_cut (fun _ h' => ∃ w, Sp h h' (RPowA pw2 w :: PowA T_power_Power pw w :: BoxA a7 T_api_Params (pmL x) :: Z :: [BoxA a1 T_api_Params (pmL p), BoxA a4 T_api_Params (pmL (cfgP l3)), OwnA T_int r 1 intv (cfgC l3)])) ?_ ?_
      · refine br_eq (fun c5 => ?_) fun _ => ⟨_, H18⟩
        refine (within_spec fuse 12 h18 (by decide) (by decide)).mono ?_
        rintro _ _ ⟨rfl, rfl⟩
        refine ⟨_, rfl, (arm_spec (fuse % 12) (by omega) (H18.selT 2 [1, 0])).mono ?_⟩
        rintro _ h20 ⟨rfl, H20⟩
        refine ⟨(), rfl, (within_spec fuse 12 h20 (by decide) (by decide)).mono ?_⟩
        rintro _ _ ⟨rfl, rfl⟩
        refine ⟨_, rfl, (rarm_spec (fuse % 12) (by omega) (H20.selT 2 [1, 0])).mono ?_⟩
        rintro _ h22 ⟨rfl, H22⟩
        exact ⟨(), rfl, _, H22⟩
      · rintro _ h23 ⟨w, H23⟩
        have hz23 := hSt.at [_, _, _] H23
        have hzl := hz23.len
        refine join_in ⟨x, (H23.box 2 rfl).cells0 _ rfl, (spare_int_spec z lz 71 h23 hz23 (by omega)).mono ?_⟩
        rintro _ h24 ⟨u, rfl, hu1, hu2, R24⟩
        have H24 := H23.comp1 R24
        have hb24 := H24.box 3 rfl
        refine ⟨u, rfl, ⟨hb24.cell0 rfl, hb24.cell rfl, hb24.cell rfl, trivial⟩, ?_⟩
        obtain ⟨OW, hOW⟩ : ∃ OW, OW = OwnA T_int ⟨u.ptr, lz.length + 2, lz.length + 2⟩ 1 intv (lz ++ [71, 71]) := ⟨_, rfl⟩
        have hSu : ∀ {As Bs : List HP}, St (fun b => b < h.size) h (OW :: Bs) fun h => Rd h u 1 intv lz := fun {As Bs} => St.thing 0 rfl fun h' hq => by
          rw [hOW] at hq
          have h1 := (hq.1.seq (fun _ => rfl) hq.2).take lz.length (by simp)
          rw [List.take_append_of_le_length (Nat.le_refl _), List.take_length] at h1
          have : u = ⟨u.ptr, lz.length, lz.length + 2⟩ := by obtain ⟨a, b, c⟩ := u; simp only at hu1 hu2 ⊢; rw [hu1, hu2]
          rw [this]; exact h1
        rw [← hOW] at H24
        have H24' := H24.selT 3 [2, 1, 0]
        refine (format_spec x y u lz (As := RPowA pw2 w :: OW :: BoxA a7 T_api_Params (pmL x) :: Z :: [BoxA a1 T_api_Params (pmL p), BoxA a4 T_api_Params (pmL (cfgP l3)), OwnA T_int r 1 intv (cfgC l3)]) (St.cons (hSu (As := []))) (by omega) H24').mono ?_
        rintro _ h25 ⟨Q1, Q0⟩
        have next : ∀ {h' : Heap}, Sp h h' [BoxA a1 T_api_Params (pmL p), BoxA a4 T_api_Params (pmL (cfgP l3)), OwnA T_int r 1 intv (cfgC l3)] → ∃ t' : Nat, IntKind.wrap .i64 ((i : Int) + 1) = (t' : Int) ∧ (t' ≤ 6 ∧ Sp h h' [BoxA a1 T_api_Params (pmL p), BoxA a4 T_api_Params (pmL (cfgP l3)), OwnA T_int r 1 intv (cfgC l3)]) ∧ 6 - t' < 6 - i := fun R => ⟨i + 1, by rw [Go.Vc.wrap_small _ (by omega) (by omega)]; rfl, ⟨by omega, R⟩, by omega⟩
        by_cases e0 : (formatP x y w lz).1 = 0
        · obtain ⟨a, x1, da, rfl, H25⟩ := Q0 e0
          refine ⟨(some a, 0), rfl, trivial, ?_⟩
          dsimp only
          have hl64 := formatP_ok e0
          have hb25 := H25.box 4 rfl
          refine ⟨x, hb25.cells0 _ rfl, ?_⟩
          refine (rformat_spec x y z lz (w := w) (pw := pw2) (As := CoreA kitC a pw (manL x1) w.offs da (formatP x y w lz).2.1 (formatP x y w lz).2.2 :: ManA x1 (newMani x y lz) :: OW :: BoxA a7 T_api_Params (pmL x) :: Z :: [BoxA a1 T_api_Params (pmL p), BoxA a4 T_api_Params (pmL (cfgP l3)), OwnA T_int r 1 intv (cfgC l3)]) ((((hSt.cons).cons).cons).cons) (by omega) (H25.selT 3 [2, 0, 1])).mono ?_
          rintro _ h27 ⟨_, P0⟩
          obtain ⟨a2, x2, da2, rfl, H27⟩ := P0 e0
          refine ⟨(some a2, 0), rfl, br_ne (fun e => absurd rfl e) fun _ => ?_⟩
          have hz : ManSz (newMani x y lz) := newMani_sz x y lz hl64
          have H28 := H27.selT 4 [2, 0, 1, 3]
          refine (same29_spec x1 x2 (newMani x y lz) (H28.at 3 rfl) (H28.at 2 rfl) hz (newMani_in hl64) rfl H28).mono ?_
          rintro _ h28 ⟨rfl, R28⟩
          refine ⟨true, rfl, br_not (fun e => by cases e) fun _ => br_not (fun e => by cases e) fun _ => next ?_⟩
          exact (SpB.up H28 R28.pres).rest.rest.rest.rest.rest.rest.rest
        · obtain ⟨rfl, H25⟩ := Q1 e0
          refine ⟨(none, (formatP x y w lz).1), rfl, trivial, ?_⟩
          dsimp only
          have hb25 := H25.box 2 rfl
          refine ⟨x, hb25.cells0 _ rfl, ?_⟩
          refine (rformat_spec x y z lz (w := w) (pw := pw2) (As := OW :: BoxA a7 T_api_Params (pmL x) :: Z :: [BoxA a1 T_api_Params (pmL p), BoxA a4 T_api_Params (pmL (cfgP l3)), OwnA T_int r 1 intv (cfgC l3)]) ((hSt.cons).cons) (by omega) H25).mono ?_
          rintro _ h27 ⟨P1, _⟩
          obtain ⟨rfl, H27⟩ := P1 e0
          refine ⟨(none, (formatP x y w lz).1), rfl, br_ne (fun e => absurd rfl e) fun _ => ?_⟩
          refine (same29Nil_spec h27).mono ?_
          rintro _ h28 ⟨rfl, R28⟩
          refine ⟨true, rfl, br_not (fun e => by cases e) fun _ => ?_⟩
          have e1 : ((formatP x y w lz).1 == (0 : Int)) = false := by simpa using e0
          rw [e1]
          exact br_not (fun e => by cases e) fun _ => next (SpB.up H27 R28.pres).rest.rest.rest
  · refine ⟨cfgP l3, (H6.box 1 rfl).cells0 _ rfl, ?_⟩
    refine (formatNil_spec (cfgP l3) (cfgE l3) r (cfgC l3) (H6.seq 2 rfl fun _ => rfl) (by omega)).mono ?_
    rintro _ h29 ⟨rfl, R29⟩
    refine ⟨(none, 1), rfl, br_eq (fun _ => ?_) fun e => absurd rfl e⟩
    refine (wakes29_spec h29).mono ?_
    rintro _ h30 ⟨rfl, R30⟩
    exact ⟨true, rfl, rfl, .zip (SpB.up (SpB.up H6 R29.pres) R30.pres).pres⟩
end
end Go.Proofs.YtdoiokchdaoonaaGreat
namespace Go.Proofs.YtdoiokchdaoonaaGreat
open Go Go.Vc Go.Proofs Wl
theorem law_formats_spec (p : Pm) (extra : Int) (s2 : Sl) (l2 : List Int) (s3 : Sl) (l3 : List Int) (fuse : Int) (h : Heap) (hs2 : Rd h s2 1 intv l2) (hs3 : Rd h s3 1 intv l3) :
    Meets Tryz.prog wellspringlaw29_StoreFormats_id #[pmv p, .int .i64 extra, .slice s2.ptr s2.len s2.cap, .slice s3.ptr s3.len s3.cap, .int .i64 fuse] h fun v h' => v = .bool true ∧ Pres (fun b => b < h.size) h h' :=
  (storeFormats_spec p extra s2 l2 s3 l3 fuse h hs2 hs3).mono fun _ _ ⟨a, b⟩ => ⟨a, b.pres⟩
end Go.Proofs.YtdoiokchdaoonaaGreat
