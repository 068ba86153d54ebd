/- Part of the proofs that wellspringlaw30's laws answer true whatever the input reads, and leave it as it was; no condition. -/
import Derived.Test.YtmaknfkhibljfaaGreatKB
set_option linter.unusedVariables false
set_option linter.unusedSimpArgs false
namespace Go.Vc
open Go Wl
def placesAt (l : List Int) (k : Nat) : List Int := ((List.range k).map fun i : Nat => (i : Int)).filter fun i => decide (0 < l.getD i.toNat 0)
def placesP (l : List Int) : List Int × Bool :=
  if l.all (inB · 0 512) then (placesAt l l.length, decide (l.length ≤ 64) && decide (0 < (placesAt l l.length).length)) else ([], false)
theorem placesAt_succ (l : List Int) (k : Nat) (hk : k < l.length) : placesAt l (k + 1) = placesAt l k ++ if 0 < l[k] then [(k : Int)] else [] := by
  unfold placesAt
  rw [List.range_succ, List.map_append, List.filter_append]
  congr 1
  simp only [List.map_cons, List.map_nil, List.filter_cons, List.filter_nil, Int.toNat_natCast, List.getD_eq_getElem?_getD, List.getElem?_eq_getElem hk, Option.getD_some]
  by_cases h : 0 < l[k] <;> simp [h]
theorem placesAt_len (l : List Int) (k : Nat) : (placesAt l k).length ≤ k := by
  unfold placesAt
  exact Nat.le_trans (List.length_filter_le _ _) (by simp)
end Go.Vc
namespace Go.Proofs.YtmaknfkhibljfaaGreat
open Go Go.Vc Go.Proofs Wl
section
set_option maxRecDepth 20000
theorem places_spec (s : Sl) (l : List Int) (h : Heap) (hs : Rd h s 1 intv l) (hl : l.length ≤ 2 ^ 20) :
    Meets Tryz.prog store_places_id #[.slice s.ptr s.len s.cap] h fun v h' => ∃ r : Sl, v = .tuple #[.slice r.ptr r.len r.cap, .bool (placesP l).2] ∧ Sp h h' [OwnA T_int r 1 intv (placesP l).1] := by
  refine store_places_run s ?_
  unfold store_places_m
  have hsl := hs.len
  have H0 : Sp h h [OwnA T_int ⟨none, 0, 0⟩ 1 intv (placesAt l 0)] := (Sp.refl h).nil T_int 1 intv
  refine loop_inv (fun t : Sl × Nat => (t.1, (t.2 : Int))) (fun t h' => t.2 ≤ l.length ∧ (l.take t.2).all (inB · 0 512) = true ∧ Sp h h' [OwnA T_int t.1 1 intv (placesAt l t.2)]) (fun t => l.length - t.2) (⟨none, 0, 0⟩, 0) rfl ⟨by simp, by simp, H0⟩ ?_
  rintro ⟨o, i⟩ h1 ⟨hi, hall, H1⟩
  dsimp only at *
  have hbad : ∀ (hi' : i < l.length), inB l[i] 0 512 = false → placesP l = ([], false) := fun hi' hb => by
    unfold placesP
    rw [if_neg]
    intro hc
    have := List.all_eq_true.1 hc _ (List.getElem_mem hi')
    rw [hb] at this; cases this
  refine br_dec (fun e => ?_) (fun e => ?_)
  · have hi' : i < l.length := by omega
    have hpl := placesAt_len l i
    refine (Seq.up hs H1.pres).get1 i rfl hi' l[i] rfl ?_
    refine join_in (br_dec (fun e1 => ?_) (fun e1 => br_dec (fun e2 => ?_) (fun e2 => ?_)))
    · have hb := hbad hi' (by unfold inB; simp; omega)
      rw [hb]
      exact ⟨⟨none, 0, 0⟩, rfl, (H1.sel []).nil T_int 1 intv⟩
    · have hb := hbad hi' (by unfold inB; simp; omega)
      rw [hb]
      exact ⟨⟨none, 0, 0⟩, rfl, (H1.sel []).nil T_int 1 intv⟩
    · have hall' : (l.take (i + 1)).all (inB · 0 512) = true := by
        rw [take_snoc l i hi', List.all_append, hall, Bool.true_and, List.all_cons, List.all_nil, Bool.and_true]
        unfold inB; simp; omega
      refine br_dec (fun e3 => ?_) (fun e3 => ?_)
      · refine H1.push C_ok 0 rfl eInt rfl (by decide) (fun _ => rfl) one_int (i : Int) rfl (by decide) (by omega) fun o' h4 H4 => ?_
        refine ⟨(o', i + 1), by dsimp only; rw [Go.Vc.wrap_small _ (by omega) (by omega)]; rfl, ⟨by dsimp only; omega, hall', ?_⟩, by dsimp only; omega⟩
        dsimp only
        rw [placesAt_succ l i hi', if_pos (by omega)]
        exact H4
      · refine ⟨(o, i + 1), by dsimp only; rw [Go.Vc.wrap_small _ (by omega) (by omega)]; rfl, ⟨by dsimp only; omega, hall', ?_⟩, by dsimp only; omega⟩
        dsimp only
        rw [placesAt_succ l i hi', if_neg (by omega), List.append_nil]
        exact H1
  · have hie : i = l.length := by omega
    subst hie
    rw [List.take_length] at hall
    have hol := (H1.own 0 rfl).len
    have hp : placesP l = (placesAt l l.length, decide (l.length ≤ 64) && decide (0 < (placesAt l l.length).length)) := by unfold placesP; rw [if_pos hall]
    rw [hp]
    refine br_dec (fun e1 => ⟨o, ?_, H1⟩) (fun e1 => ⟨o, ?_, H1⟩)
    · dsimp only
      rw [decide_eq_true (show l.length ≤ 64 by omega), Bool.true_and]
      congr 4
      refine congrArg Value.bool ?_
      rw [decide_eq_decide]; omega
    · dsimp only
      rw [decide_eq_false (show ¬ l.length ≤ 64 by omega), Bool.false_and]
end
end Go.Proofs.YtmaknfkhibljfaaGreat
namespace Go.Proofs.YtmaknfkhibljfaaGreat
open Go Go.Vc Go.Proofs Wl
section
set_option maxRecDepth 20000
variable {B : Blocks} {h0 h : Heap} {As : List HP} {a pw : Addr} {offs : Int} {da : List (Option Addr)} {w : Pow} {ds : Drvs}
theorem storeLive_spec (x : ManV) (m : Mani) (hx : RdM h x m) (hz : ManSz m) (H : SpB B h0 h (CoreA kitC a pw (manL x) offs da w ds :: As)) :
    Meets Tryz.prog store_Store_Live_id #[.pointer (some a)] h fun v h' => ∃ r : Sl, v = .slice r.ptr r.len r.cap ∧ Sp h h' [OwnA T_int r 1 intv (liveOf ds m.drives)] := by
  refine store_Store_Live_run (some a) ?_
  unfold store_Store_Live_m
  obtain ⟨ok, hb⟩ := SpB.coreBox H
  have hdr := hz.dr
  refine br_b (fun e => by cases e) (fun _ => ⟨a, rfl, x.2.2.2.2.2.2.1, hb.cell rfl, (slive_spec _ m.drives hx.drives (by omega) H).mono ?_⟩)
  rintro _ h1 ⟨r, rfl, R1⟩
  exact ⟨r, rfl, r, rfl, R1⟩
theorem storeMani_spec (x : ManV) (m : Mani) (hx : RdM h x m) (hz : ManSz m) (H : SpB B h0 h (CoreA kitC a pw (manL x) offs da w ds :: As)) :
    Meets Tryz.prog store_Store_Manifest_id #[.pointer (some a)] h fun v h' => ∃ y : ManV, v = manv y ∧ Sp h h' [ManA y m] := by
  refine store_Store_Manifest_run (some a) ?_
  unfold store_Store_Manifest_m
  obtain ⟨ok, hb⟩ := SpB.coreBox H
  refine (Sp.refl h).alloc C_ok rfl fun a1 h1 H1 => ?_
  have hb1 := hb.pres H1.pres hb.lt
  refine br_b (fun e => by cases e) (fun _ => ⟨a, rfl, x, hb1.cells0 _ rfl, (own_m_spec x m h1 (hx.up H1.pres) hz).mono ?_⟩)
  rintro _ h2 ⟨y, rfl, R2⟩
  have H2 := H1.comp R2
  refine ⟨y, rfl, ?_⟩
  refine H2.store C_ok 0 rfl rfl 0 (manL y) rfl rfl rfl (by simp [Value.cells]) fun h3 H3 => ?_
  exact ⟨y, (H3.box 0 rfl).cells0 _ rfl, y, rfl, H3.sel [1]⟩
end
end Go.Proofs.YtmaknfkhibljfaaGreat
namespace Go.Vc
open Go Wl
def downP (w : Pow) (offs : Int) : Bool := w.off || w.offs != offs
end Go.Vc
namespace Go.Proofs.YtmaknfkhibljfaaGreat
open Go Go.Vc Go.Proofs Wl
section
set_option maxRecDepth 20000
variable {B : Blocks} {h0 h : Heap} {As : List HP} {a pw : Addr} {mc : List Value} {offs : Int} {da : List (Option Addr)} {w : Pow} {ds : Drvs}
theorem SpB.corePow (H : SpB B h0 h (CoreA kitC a pw mc offs da w ds :: As)) : ∃ l, PowOk w l ∧ Box h pw T_power_Power (powC w l) := by
  obtain ⟨ok, H1⟩ := Go.Vc.SpB.coreOpen H
  have H2 := H1.rest
  obtain ⟨l, hl, H3⟩ := SpB.powOpen H2
  exact ⟨l, hl, H3.box 0 rfl⟩
theorem storeDown_spec (H : SpB B h0 h (CoreA kitC a pw mc offs da w ds :: As)) :
    Meets Tryz.prog store_Store_Down_id #[.pointer (some a)] h fun v h' => v = .bool (downP w offs) ∧ h' = h := by
  refine store_Store_Down_run (some a) ?_
  unfold store_Store_Down_m
  obtain ⟨ok, hb⟩ := SpB.coreBox H
  obtain ⟨l, hl, hp⟩ := SpB.corePow H
  have c8 : cellOf h (a.add 8) = some (.pointer (some pw)) := hb.cell (storC_pw ok.l8)
  have c9 : cellOf h (a.add 9) = some (.int .i64 offs) := hb.cell (storC_offs ok.l8)
  refine br_b (fun _ => ?_) (fun e => by cases e)
  refine ⟨a, rfl, some pw, c8, (on_spec l hp).mono ?_⟩
  rintro _ _ ⟨rfl, rfl⟩
  refine ⟨_, rfl, trivial, br_not (fun e => ⟨trivial, ?_⟩) fun e => ?_⟩
  · have e' : w.off = true := by simpa using e
    exact ⟨by unfold downP; rw [e']; rfl, rfl⟩
  · have e' : w.off = false := by simpa using e
    refine ⟨a, rfl, some pw, c8, a, rfl, offs, c9, (offs_spec l hp).mono ?_⟩
    rintro _ _ ⟨rfl, rfl⟩
    exact ⟨_, rfl, ⟨c9, trivial⟩, by unfold downP; rw [e']; rfl, rfl⟩
theorem storePow_spec (H : SpB B h0 h (CoreA kitC a pw mc offs da w ds :: As)) :
    Meets Tryz.prog store_Store_Power_id #[.pointer (some a)] h fun v h' => v = .pointer (some pw) ∧ h' = h := by
  refine store_Store_Power_run (some a) ?_
  unfold store_Store_Power_m
  obtain ⟨ok, hb⟩ := SpB.coreBox H
  exact br_b (fun e => by cases e) fun _ => ⟨a, rfl, some pw, hb.cell (storC_pw ok.l8), rfl, rfl⟩
end
end Go.Proofs.YtmaknfkhibljfaaGreat
namespace Go.Vc
open Go Wl
section
variable {k : Kit} {B : Blocks} {h0 h : Heap} {As : List HP} {a pw : Addr} {mc : List Value} {offs : Int} {w : Pow}
theorem SpB.emps (H : SpB B h0 h As) : ∀ n, SpB B h0 h (List.replicate n emp ++ As)
  | 0 => H
  | n + 1 => (((SpB.emps H n).comp (.one (A := emp) (Pres.refl _ _) trivial)).front1 : SpB B h0 h (emp :: (List.replicate n emp ++ As)))
theorem SpB.coreFresh (h8 : mc.length = 8) (H : SpB B h0 h (BoxA a k.tS (storC mc pw offs (List.replicate 64 none)) :: PowA k.tP pw w :: As)) : SpB B h0 h (CoreA k a pw mc offs (List.replicate 64 none) w (List.replicate 64 none) :: As) := by
  have ok : CoreOk mc (List.replicate 64 none) (List.replicate 64 (none : Option Drv)) := ⟨h8, by simp, by simp, fun i => by
    simp only [List.getD_eq_getElem?_getD, List.getElem?_replicate]; split <;> rfl⟩
  have hd : drvL k pw (List.replicate 64 none) (List.replicate 64 (none : Option Drv)) = List.replicate 64 emp := by
    simp [drvL, drvO]
  refine SpB.coreClose ok ?_
  rw [hd]
  have H2 := SpB.emps H 64
  refine H2.pick (fun i => if i = 0 then 64 else if i = 1 then 65 else if i < 66 then i - 2 else i) (fun x y hab => by (try dsimp only at hab); split at hab <;> split at hab <;> (try split at hab) <;> (try split at hab) <;> (try split at hab) <;> (try split at hab) <;> omega) fun i A hi => ?_
  rcases i with _ | _ | i
  · simpa using hi
  · simpa using hi
  · by_cases hc : i < 64
    · have e1 : (List.replicate 64 emp ++ As)[i]? = some A := hi
      rw [List.getElem?_append_left (by simpa using hc)] at e1
      try dsimp only
      rw [if_neg (by omega), if_neg (by omega), if_pos (by omega), List.getElem?_append_left (by simp; omega)]
      simpa using e1
    · have e1 : (List.replicate 64 emp ++ As)[i]? = some A := hi
      rw [List.getElem?_append_right (by simp; omega)] at e1
      try dsimp only
      rw [if_neg (by omega), if_neg (by omega), if_neg (by omega), List.getElem?_append_right (by simp; omega)]
      simp only [List.length_replicate] at e1 ⊢
      obtain ⟨j, rfl⟩ : ∃ j, i = j + 64 := ⟨i - 64, by omega⟩
      have e2 : j + 64 + 1 + 1 - 64 = j + 1 + 1 := by omega
      rw [e2]
      simpa using e1
end
end Go.Vc
namespace Go.Proofs.YtmaknfkhibljfaaGreat
open Go Go.Vc Go.Proofs Wl
section
set_option maxRecDepth 20000
theorem storBuild (x : ManV) (pw : Addr) (offs : Int) : AlwaysV Tryz.prog (Instr.build T_store_Store #[(0, manv x), (1, .pointer (some pw)), (2, .int .i64 offs)]) (.agg (storC (manL x) pw offs (List.replicate 64 none)).toArray) :=
  always_build C_ok (i := _) rfl rfl rfl (vs := [(0, manv x), (1, .pointer (some pw)), (2, .int .i64 offs)]) (cells := (storC (manL x) pw offs (List.replicate 64 none)).toArray) (by kernel_rfl)
end
end Go.Proofs.YtmaknfkhibljfaaGreat
namespace Go.Vc
open Go Wl
section
variable {k : Kit} {B : Blocks} {h0 h : Heap} {As : List HP} {a pw b : Addr} {mc : List Value} {offs : Int} {da : List (Option Addr)} {w : Pow} {ds : Drvs} {d : Drv} {n : Nat}
theorem storC_set (h8 : mc.length = 8) : (storC mc pw offs da).set (10 + n) (.pointer (some b)) = storC mc pw offs (da.set n (some b)) := by
  unfold storC
  rw [List.set_append_right _ _ (by omega), h8, show 10 + n - 8 = n + 1 + 1 by omega, List.set_cons_succ, List.set_cons_succ, List.map_set]
theorem SpB.coreAdd (ok : CoreOk mc da ds) (hn : n < 64) (hd : ds[n]? = some none) (H : SpB B h0 h (BoxA a k.tS (storC mc pw offs (da.set n (some b))) :: PowA k.tP pw w :: (drvL k pw da ds ++ (DrvG k.tD (k.f pw) b d :: As)))) : SpB B h0 h (CoreA k a pw mc offs (da.set n (some b)) w (ds.set n (some d)) :: As) := by
  have hda := ok.noAddr hn hd
  have hla := ok.la
  have hls := ok.ls
  have ok' : CoreOk mc (da.set n (some b)) (ds.set n (some d)) := ⟨ok.l8, by simp [hla], by simp [hls], fun i => by
    by_cases hin : n = i
    · subst hin
      rw [List.getD_eq_getElem?_getD, List.getD_eq_getElem?_getD, List.getElem?_set_self (by omega), List.getElem?_set_self (by omega)]; rfl
    · have := ok.same i
      rw [List.getD_eq_getElem?_getD, List.getD_eq_getElem?_getD] at this ⊢
      rw [List.getElem?_set_ne hin, List.getElem?_set_ne hin]; exact this⟩
  have hll := drvL_len (k := k) (pw := pw) ok
  have hL : (drvL k pw da ds)[n]? = some emp := by
    simp only [drvL, List.getElem?_zipWith, hda, hd]; rfl
  have hset : drvL k pw (da.set n (some b)) (ds.set n (some d)) = (drvL k pw da ds).set n (DrvG k.tD (k.f pw) b d) := by
    apply List.ext_getElem?
    intro j
    simp only [drvL, List.getElem?_set, List.getElem?_zipWith, List.length_zipWith]
    by_cases hij : n = j
    · subst hij
      rw [if_pos rfl, if_pos (by omega), if_pos rfl, if_pos (by omega), if_pos rfl, if_pos (by omega)]; rfl
    · simp [hij]
  refine SpB.coreClose ok' ?_
  rw [hset]
  obtain ⟨L, hLe⟩ : ∃ L, L = drvL k pw da ds := ⟨_, rfl⟩
  rw [← hLe] at H hL hll ⊢
  have H1 := H.cons (L.length + 2) (A := DrvG k.tD (k.f pw) b d) (by
    rw [List.getElem?_cons_succ, List.getElem?_cons_succ, List.getElem?_append_right (Nat.le_refl _), Nat.sub_self]; rfl)
  have e : (BoxA a k.tS (storC mc pw offs (da.set n (some b))) :: PowA k.tP pw w :: (L ++ (DrvG k.tD (k.f pw) b d :: As))).set (L.length + 2) emp = BoxA a k.tS (storC mc pw offs (da.set n (some b))) :: PowA k.tP pw w :: (L ++ (emp :: As)) := by
    rw [List.set_cons_succ, List.set_cons_succ, List.set_append_right _ _ (Nat.le_refl _), Nat.sub_self]; rfl
  rw [e] at H1
  have H2 := H1.selT 3 [0, 2, 1]
  have hLs : L.set n emp = L := by
    obtain ⟨h1, h2⟩ := List.getElem?_eq_some_iff.1 hL
    conv => lhs; rw [← h2]
    exact List.set_getElem_self h1
  have H3 : SpB B h0 h (DrvG k.tD (k.f pw) b d :: PowA k.tP pw w :: BoxA a k.tS (storC mc pw offs (da.set n (some b))) :: (L.set n emp ++ (emp :: As))) := by rw [hLs]; exact H2
  have H4 := SpB.putBack n (by omega) H3
  have H5 := SpB.closeAll (BoxA a k.tS (storC mc pw offs (da.set n (some b))) :: PowA k.tP pw w :: L.set n (DrvG k.tD (k.f pw) b d)) H4
  exact SpB.openAll (L := BoxA a k.tS (storC mc pw offs (da.set n (some b))) :: PowA k.tP pw w :: L.set n (DrvG k.tD (k.f pw) b d)) H5.drop2
end
end Go.Vc
namespace Go.Vc
open Go Wl
section
variable {k : Kit} {B : Blocks} {h0 h : Heap} {As : List HP} {a pw b : Addr} {mc : List Value} {offs : Int} {da : List (Option Addr)} {w : Pow} {ds : Drvs} {d : Drv} {n : Nat}
theorem SpB.coreSwap (ok : CoreOk mc da ds) (hn : n < 64) (H : SpB B h0 h (BoxA a k.tS (storC mc pw offs (da.set n (some b))) :: PowA k.tP pw w :: (drvL k pw da ds ++ (DrvG k.tD (k.f pw) b d :: As)))) : SpB B h0 h (CoreA k a pw mc offs (da.set n (some b)) w (ds.set n (some d)) :: As) := by
  have hla := ok.la
  have hls := ok.ls
  have ok' : CoreOk mc (da.set n (some b)) (ds.set n (some d)) := ⟨ok.l8, by simp [hla], by simp [hls], fun i => by
    by_cases hin : n = i
    · subst hin
      rw [List.getD_eq_getElem?_getD, List.getD_eq_getElem?_getD, List.getElem?_set_self (by omega), List.getElem?_set_self (by omega)]; rfl
    · have := ok.same i
      rw [List.getD_eq_getElem?_getD, List.getD_eq_getElem?_getD] at this ⊢
      rw [List.getElem?_set_ne hin, List.getElem?_set_ne hin]; exact this⟩
  have hll := drvL_len (k := k) (pw := pw) ok
  have hset : drvL k pw (da.set n (some b)) (ds.set n (some d)) = (drvL k pw da ds).set n (DrvG k.tD (k.f pw) b d) := by
    apply List.ext_getElem?
    intro j
    simp only [drvL, List.getElem?_set, List.getElem?_zipWith, List.length_zipWith]
    by_cases hij : n = j
    · subst hij
      rw [if_pos rfl, if_pos (by omega), if_pos rfl, if_pos (by omega), if_pos rfl, if_pos (by omega)]; rfl
    · simp [hij]
  refine SpB.coreClose ok' ?_
  rw [hset]
  obtain ⟨L, hLe⟩ : ∃ L, L = drvL k pw da ds := ⟨_, rfl⟩
  rw [← hLe] at H hll ⊢
  have hLn : n < L.length := by omega
  have H := H.weak (n + 2) (A := L[n]) (D := emp) (by rw [List.getElem?_cons_succ, List.getElem?_cons_succ, List.getElem?_append_left hLn, List.getElem?_eq_getElem hLn]) (fun _ _ => trivial)
  have e0 : (BoxA a k.tS (storC mc pw offs (da.set n (some b))) :: PowA k.tP pw w :: (L ++ (DrvG k.tD (k.f pw) b d :: As))).set (n + 2) emp = BoxA a k.tS (storC mc pw offs (da.set n (some b))) :: PowA k.tP pw w :: (L.set n emp ++ (DrvG k.tD (k.f pw) b d :: As)) := by
    rw [List.set_cons_succ, List.set_cons_succ, List.set_append_left _ _ hLn]
  rw [e0] at H
  have hl2 : (L.set n emp).length = L.length := List.length_set
  have H1 := H.cons (L.length + 2) (A := DrvG k.tD (k.f pw) b d) (by
    rw [List.getElem?_cons_succ, List.getElem?_cons_succ, List.getElem?_append_right (by omega), hl2, Nat.sub_self]; rfl)
  have e : (BoxA a k.tS (storC mc pw offs (da.set n (some b))) :: PowA k.tP pw w :: (L.set n emp ++ (DrvG k.tD (k.f pw) b d :: As))).set (L.length + 2) emp = BoxA a k.tS (storC mc pw offs (da.set n (some b))) :: PowA k.tP pw w :: (L.set n emp ++ (emp :: As)) := by
    rw [List.set_cons_succ, List.set_cons_succ, List.set_append_right _ _ (by omega), hl2, Nat.sub_self]; rfl
  rw [e] at H1
  have H2 := H1.selT 3 [0, 2, 1]
  have H3 : SpB B h0 h (DrvG k.tD (k.f pw) b d :: PowA k.tP pw w :: BoxA a k.tS (storC mc pw offs (da.set n (some b))) :: (L.set n emp ++ (emp :: As))) := H2
  have H4 := SpB.putBack n hLn H3
  have H5 := SpB.closeAll (BoxA a k.tS (storC mc pw offs (da.set n (some b))) :: PowA k.tP pw w :: L.set n (DrvG k.tD (k.f pw) b d)) H4
  exact SpB.openAll (L := BoxA a k.tS (storC mc pw offs (da.set n (some b))) :: PowA k.tP pw w :: L.set n (DrvG k.tD (k.f pw) b d)) H5.drop2
end
end Go.Vc
namespace Go.Vc
open Go Wl Go.Proofs.YtmaknfkhibljfaaGreat
def newMani (p : Pm) (extra : Int) (l : List Int) : Mani := ⟨1, 0, p, extra, placesAt l l.length, []⟩
def newDrvs (l : List Int) (k : Nat) : Drvs := (List.range 64).map fun i : Nat => if (i : Int) ∈ (placesAt l l.length).take k then some (Drv.new (l.getD i 0).toNat) else none
def formatP (p : Pm) (extra : Int) (w : Pow) (l : List Int) : Int × Pow × Drvs :=
  if (placesP l).2 && (mayP p && inB extra 0 16) then
    if (placesAt l l.length).any fun i => decide (l.getD i.toNat 0 < ((splitM (newMani p extra l)).length : Int)) then (7, w, [])
    else layAll (pagesOf (newMani p extra l) (placesAt l l.length)) w (newDrvs l (placesAt l l.length).length)
  else (1, w, [])
end Go.Vc
namespace Go.Vc
open Go Wl Go.Proofs.YtmaknfkhibljfaaGreat
theorem newDrvs_zero (l : List Int) : newDrvs l 0 = List.replicate 64 none := by
  unfold newDrvs
  rw [List.take_zero]
  apply List.ext_getElem?
  intro j
  simp only [List.getElem?_map, List.getElem?_replicate, List.getElem?_range, List.not_mem_nil, if_false]
  by_cases h : j < 64
  · simp [h, List.getElem?_range]
  · simp [h]
theorem newDrvs_len (l : List Int) (k : Nat) : (newDrvs l k).length = 64 := by simp [newDrvs]
theorem newDrvs_succ (l : List Int) (k n : Nat) (hk : k < (placesAt l l.length).length) (hn : (placesAt l l.length)[k] = (n : Int)) (h64 : n < 64) : (newDrvs l k).set n (some (Drv.new (l.getD n 0).toNat)) = newDrvs l (k + 1) := by
  apply List.ext_getElem?
  intro j
  unfold newDrvs
  rw [take_snoc _ _ hk, hn, List.getElem?_set, List.length_map, List.length_range]
  by_cases hj : j < 64
  · simp only [List.getElem?_map, List.getElem?_range hj, Option.map_some, List.mem_append, List.mem_singleton]
    by_cases hnj : n = j
    · subst hnj
      rw [if_pos rfl, if_pos h64, if_pos (Or.inr rfl)]
    · rw [if_neg hnj]
      have : ¬ (j : Int) = (n : Int) := by omega
      simp only [this, or_false]
  · rw [if_neg (by omega)]
    rw [List.getElem?_eq_none (by simp; omega), List.getElem?_eq_none (by simp; omega)]
theorem placesAt_mem (l : List Int) (k : Nat) (x : Int) : x ∈ placesAt l k ↔ ∃ n : Nat, n < k ∧ x = (n : Int) ∧ 0 < l.getD n 0 := by
  unfold placesAt
  rw [List.mem_filter, List.mem_map]
  constructor
  · rintro ⟨⟨n, h1, rfl⟩, h2⟩
    exact ⟨n, List.mem_range.1 h1, rfl, by simpa using h2⟩
  · rintro ⟨n, h1, rfl, h2⟩
    exact ⟨⟨n, List.mem_range.2 h1, rfl⟩, by simpa using h2⟩
theorem placesAt_at (l : List Int) (k i : Nat) (hi : i < (placesAt l k).length) : ∃ n : Nat, n < k ∧ (placesAt l k)[i] = (n : Int) ∧ 0 < l.getD n 0 := (placesAt_mem l k _).1 (List.getElem_mem hi)
end Go.Vc
namespace Wl
open Go
theorem dAt_set (ds : Drvs) (n : Nat) (d : Drv) (s : Int) (hn : n < 64) (hl : ds.length = 64) : dAt (dSet ds (n : Int) d) s = if s = (n : Int) then some d else dAt ds s := by
  unfold dAt dSet
  rw [Int.toNat_natCast]
  by_cases h : 0 ≤ s ∧ s < 64
  · rw [if_pos h, if_pos h, List.getElem?_set]
    by_cases hs : s = (n : Int)
    · subst hs
      rw [if_pos rfl, Int.toNat_natCast, if_pos rfl, if_pos (by omega)]; rfl
    · rw [if_neg hs, if_neg (by omega)]
  · rw [if_neg h, if_neg h, if_neg (by omega)]
theorem dAt_range {ds : Drvs} {s : Int} {d : Drv} (h : dAt ds s = some d) : ∃ n : Nat, s = (n : Int) ∧ n < 64 := by
  unfold dAt at h
  by_cases hs : 0 ≤ s ∧ s < 64
  · exact ⟨s.toNat, by omega, by omega⟩
  · rw [if_neg hs] at h; cases h
structure Fit (ds : Drvs) (S Q : List Int) : Prop where
  len : ds.length = 64
  at_ : ∀ s ∈ S, ∃ d, dAt ds s = some d ∧ d.lost = false ∧ d.l.length + Q.count s ≤ d.room
theorem append_fits {d : Drv} {n : Nat} (w : Pow) (b : List UInt8) (h1 : d.lost = false) (h2 : d.l.length + (n + 1) ≤ d.room) (hb : b.length = 64) :
    ((d.append w b).1 = 0 ∨ (d.append w b).1 = 14) ∧ (d.append w b).2.2.lost = false ∧ (d.append w b).2.2.l.length + n ≤ (d.append w b).2.2.room := by
  unfold Drv.append
  rw [if_neg (by omega), if_neg (by simp [h1]), if_neg (by omega)]
  by_cases ho : w.off
  · rw [if_pos ho]; exact ⟨.inr rfl, h1, by dsimp only; omega⟩
  · rw [if_neg ho]
    by_cases hs : w.step.1
    · rw [if_pos hs]; exact ⟨.inl rfl, h1, by simp; omega⟩
    · rw [if_neg hs]; exact ⟨.inr rfl, h1, by simp; omega⟩
theorem sync_fits {d : Drv} (w : Pow) (h1 : d.lost = false) : ((d.sync w).1 = 0 ∨ (d.sync w).1 = 14) ∧ (d.sync w).2.2.lost = false ∧ (d.sync w).2.2.l = d.l ∧ (d.sync w).2.2.room = d.room := by
  unfold Drv.sync
  rw [if_neg (by simp [h1])]
  by_cases hs : w.step.1
  · rw [if_pos hs]; exact ⟨.inl rfl, h1, rfl, rfl⟩
  · rw [if_neg hs]; exact ⟨.inr rfl, h1, rfl, rfl⟩
theorem appendAt_fits {ds : Drvs} {S Q : List Int} {x : Int} (w : Pow) (b : List UInt8) (F : Fit ds S (x :: Q)) (hx : x ∈ S) (hb : b.length = 64) :
    ((appendAt w ds x b).1 = 0 ∨ (appendAt w ds x b).1 = 14) ∧ Fit (appendAt w ds x b).2.2 S Q := by
  obtain ⟨d, hd, h1, h2⟩ := F.at_ x hx
  rw [List.count_cons_self] at h2
  obtain ⟨n, rfl, hn⟩ := dAt_range hd
  have A := append_fits w b h1 (n := Q.count (n : Int)) (by omega) hb
  have e : appendAt w ds (n : Int) b = ((d.append w b).1, (d.append w b).2.1, dSet ds (n : Int) (d.append w b).2.2) := by unfold appendAt; rw [hd]
  rw [e]
  refine ⟨A.1, by unfold dSet; rw [List.length_set]; exact F.len, fun s hs => ?_⟩
  rw [dAt_set _ _ _ _ hn F.len]
  by_cases hsn : s = (n : Int)
  · subst hsn
    rw [if_pos rfl]
    exact ⟨_, rfl, A.2⟩
  · rw [if_neg hsn]
    obtain ⟨d', g, g1, g2⟩ := F.at_ s hs
    rw [List.count_cons_of_ne (fun h => hsn h.symm)] at g2
    exact ⟨d', g, g1, g2⟩
theorem appends_fits {S : List Int} : ∀ (P : List (Int × List UInt8)) (w : Pow) (ds : Drvs), Fit ds S (P.map Prod.fst) → (∀ x ∈ P, x.1 ∈ S ∧ x.2.length = 64) →
    ((appends P w ds).1 = 0 ∨ (appends P w ds).1 = 14) ∧ ((appends P w ds).1 = 0 → Fit (appends P w ds).2.2 S [])
  | [], w, ds, F, _ => ⟨.inl rfl, fun _ => F⟩
  | x :: P, w, ds, F, hP => by
    rw [appends_cons]
    obtain ⟨A, F'⟩ := appendAt_fits w x.2 (x := x.1) (Q := P.map Prod.fst) F (hP x (List.mem_cons_self ..)).1 (hP x (List.mem_cons_self ..)).2
    by_cases h0 : (appendAt w ds x.1 x.2).1 = 0
    · rw [if_pos h0]
      exact appends_fits P _ _ F' fun y hy => hP y (List.mem_cons_of_mem _ hy)
    · rw [if_neg h0]
      exact ⟨A, fun h => absurd h h0⟩
theorem syncAt_fits {ds : Drvs} {S : List Int} {x : Int} (w : Pow) (F : Fit ds S []) (hx : x ∈ S) : ((syncAt w ds x).1 = 0 ∨ (syncAt w ds x).1 = 14) ∧ Fit (syncAt w ds x).2.2 S [] := by
  obtain ⟨d, hd, h1, h2⟩ := F.at_ x hx
  obtain ⟨n, rfl, hn⟩ := dAt_range hd
  obtain ⟨A1, A2, A3, A4⟩ := sync_fits w h1
  have e : syncAt w ds (n : Int) = ((d.sync w).1, (d.sync w).2.1, dSet ds (n : Int) (d.sync w).2.2) := by unfold syncAt; rw [hd]
  rw [e]
  refine ⟨A1, by unfold dSet; rw [List.length_set]; exact F.len, fun s hs => ?_⟩
  rw [dAt_set _ _ _ _ hn F.len]
  by_cases hsn : s = (n : Int)
  · subst hsn
    rw [if_pos rfl]
    exact ⟨_, rfl, A2, by rw [A3, A4]; exact h2⟩
  · rw [if_neg hsn]; exact F.at_ s hs
theorem syncs_fits {S : List Int} : ∀ (l : List Int) (w : Pow) (ds : Drvs), Fit ds S [] → (∀ x ∈ l, x ∈ S) → ((syncs l w ds).1 = 0 ∨ (syncs l w ds).1 = 14)
  | [], _, _, _, _ => .inl rfl
  | x :: l, w, ds, F, hl => by
    rw [syncs_cons]
    obtain ⟨A, F'⟩ := syncAt_fits w F (hl x (List.mem_cons_self ..))
    by_cases h0 : (syncAt w ds x).1 = 0
    · rw [if_pos h0]; exact syncs_fits l _ _ F' fun y hy => hl y (List.mem_cons_of_mem _ hy)
    · rw [if_neg h0]; exact A
theorem layAll_fits {S : List Int} (P : List (Int × List UInt8)) (w : Pow) (ds : Drvs) (F : Fit ds S (P.map Prod.fst)) (hP : ∀ x ∈ P, x.1 ∈ S ∧ x.2.length = 64) : (layAll P w ds).1 = 0 ∨ (layAll P w ds).1 = 14 := by
  obtain ⟨A, F'⟩ := appends_fits P w ds F hP
  unfold layAll
  by_cases h0 : (appends P w ds).1 = 0
  · dsimp only
    rw [if_pos h0]
    refine syncs_fits _ _ _ (F' h0) fun x hx => ?_
    unfold slotsUp at hx
    have h := (List.mem_filter.1 hx).2
    have h : x ∈ P.map Prod.fst := by simpa using h
    obtain ⟨y, hy, rfl⟩ := List.mem_map.1 h
    exact (hP y hy).1
  · dsimp only
    rw [if_neg h0]; exact A
theorem pagesOf_count (m : Mani) (s : Int) : ∀ S : List Int, ((pagesOf m S).map Prod.fst).count s = S.count s * (splitM m).length
  | [] => by simp [pagesOf]
  | n :: S => by
    have e : pagesOf m (n :: S) = (splitM m).map (fun c => (n, c)) ++ pagesOf m S := by unfold pagesOf; rw [List.flatMap_cons]
    rw [e, List.map_append, List.count_append, pagesOf_count m s S, List.map_map]
    have e2 : (splitM m).map (Prod.fst ∘ fun c => (n, c)) = List.replicate (splitM m).length n := by
      rw [List.eq_replicate_iff]
      exact ⟨by simp, fun b hb => by simpa using (fun ⟨a, _, h⟩ => h.symm : (∃ a, a ∈ splitM m ∧ n = b) → b = n) (by simpa using hb)⟩
    rw [e2, List.count_replicate, List.count_cons]
    by_cases h : n = s
    · subst h; simp [Nat.add_mul]; omega
    · simp [h]
end Wl
namespace Go.Vc
open Go Wl Go.Proofs.YtmaknfkhibljfaaGreat
theorem placesAt_nodup (l : List Int) (k : Nat) : (placesAt l k).Nodup := by
  unfold placesAt
  refine List.Pairwise.filter _ (List.pairwise_map.2 ?_)
  exact (List.nodup_range (n := k)).imp fun h => by omega
theorem formatP_lay (p : Pm) (extra : Int) (w : Pow) (l : List Int) (hl : l.length ≤ 64) (hm : ((placesAt l l.length).any fun i => decide (l.getD i.toNat 0 < ((splitM (newMani p extra l)).length : Int))) = false) :
    (layAll (pagesOf (newMani p extra l) (placesAt l l.length)) w (newDrvs l (placesAt l l.length).length)).1 = 0 ∨ (layAll (pagesOf (newMani p extra l) (placesAt l l.length)) w (newDrvs l (placesAt l l.length).length)).1 = 14 := by
  refine layAll_fits (S := placesAt l l.length) _ _ _ ⟨newDrvs_len _ _, fun s hs => ?_⟩ fun x hx => pagesOf_mem hx
  obtain ⟨n, hn, rfl, hpos⟩ := (placesAt_mem l l.length s).1 hs
  have hroom : ((splitM (newMani p extra l)).length : Int) ≤ l.getD n 0 := by
    have := List.any_eq_false.1 hm _ hs
    rw [Int.toNat_natCast] at this
    simpa using this
  refine ⟨Drv.new (l.getD n 0).toNat, ?_, rfl, ?_⟩
  · unfold dAt newDrvs
    rw [if_pos (by omega), Int.toNat_natCast, List.getElem?_map, List.getElem?_range (by omega), Option.map_some, List.take_length, if_pos hs]; rfl
  · rw [pagesOf_count]
    have := List.nodup_iff_count.1 (placesAt_nodup l l.length) (n : Int)
    have h2 : List.count (n : Int) (placesAt l l.length) * (splitM (newMani p extra l)).length ≤ 1 * (splitM (newMani p extra l)).length := Nat.mul_le_mul_right _ this
    simp only [Drv.new, List.length_nil]
    omega
end Go.Vc
namespace Go.Proofs.YtmaknfkhibljfaaGreat
open Go Go.Vc Go.Proofs Wl
section
set_option maxRecDepth 20000
variable {B : Blocks} {h0 h : Heap} {As : List HP} {a pw b : Addr} {x : ManV} {offs : Int} {da : List (Option Addr)} {w : Pow} {ds : Drvs} {d : Drv}
theorem SpB.drvStore (n : Nat) (hn : n < 64) (hd : ds[n]? = some none) (H : SpB B h0 h (CoreA kitC a pw (manL x) offs da w ds :: DrvA pw b d :: As)) {K : Unit → Heap → Prop}
    (hk : ∀ h', SpB B h0 h' (CoreA kitC a pw (manL x) offs (da.set n (some b)) w (ds.set n (some d)) :: As) → K () h') :
    Runs Tryz.prog (Instr.storeAt T_ptr_drive_Drive (.pointer (some ((a.add 10).add n))) (.pointer (some b))) h K := by
  obtain ⟨ok, H1⟩ := Go.Vc.SpB.coreOpen H
  have he : (a.add 10).add n = a.add (10 + n) := by unfold Addr.add; simp [Nat.add_assoc]
  rw [he]
  refine H1.storeAt C_ok 0 rfl rfl rfl rfl rfl (by simp [ok.la]; omega) fun h' H2 => hk h' ?_
  rw [List.set_cons_zero, storC_set ok.l8] at H2
  exact SpB.coreAdd ok hn hd H2
end
end Go.Proofs.YtmaknfkhibljfaaGreat
namespace Go.Vc
open Go Wl Go.Proofs.YtmaknfkhibljfaaGreat
theorem placesP_ok {l : List Int} (h : (placesP l).2 = true) : (placesP l).1 = placesAt l l.length ∧ l.length ≤ 64 ∧ ∀ n : Nat, l.getD n 0 ≤ 512 := by
  unfold placesP at h ⊢
  by_cases ha : l.all (inB · 0 512) = true
  · rw [if_pos ha] at h ⊢
    refine ⟨rfl, by simp at h; exact h.1, fun n => ?_⟩
    rw [List.getD_eq_getElem?_getD]
    by_cases hn : n < l.length
    · rw [List.getElem?_eq_getElem hn]
      have := List.all_eq_true.1 ha _ (List.getElem_mem hn)
      unfold inB at this; simp at this ⊢; omega
    · rw [List.getElem?_eq_none (by omega)]; simp
  · rw [if_neg ha] at h; cases h
theorem newDrvs_none (l : List Int) (i n : Nat) (hi : i < (placesAt l l.length).length) (hn : (placesAt l l.length)[i] = (n : Int)) (h64 : n < 64) : (newDrvs l i)[n]? = some none := by
  unfold newDrvs
  rw [List.getElem?_map, List.getElem?_range h64, Option.map_some, if_neg]
  intro hc
  obtain ⟨j, hj, hj2⟩ := List.mem_take_iff_getElem.1 hc
  have := nodup_inj (placesAt_nodup l l.length) (a := j) (b := i) (by omega) hi (by rw [hj2, hn])
  omega
theorem pagesOf_len (m : Mani) : ∀ S : List Int, (pagesOf m S).length = S.length * (splitM m).length
  | [] => by simp [pagesOf]
  | n :: S => by
    have e : pagesOf m (n :: S) = (splitM m).map (fun c => (n, c)) ++ pagesOf m S := by unfold pagesOf; rw [List.flatMap_cons]
    rw [e, List.length_append, List.length_map, pagesOf_len m S, List.length_cons, Nat.succ_mul, Nat.add_comm]
theorem newMani_sz (p : Pm) (extra : Int) (l : List Int) (hl : l.length ≤ 64) : ManSz (newMani p extra l) := ⟨by have := placesAt_len l l.length; simp [newMani]; omega, by simp [newMani], by simp [newMani]⟩
end Go.Vc
namespace Go.Proofs.YtmaknfkhibljfaaGreat
open Go Go.Vc Go.Proofs Wl
section
set_option maxRecDepth 20000
variable {B : Blocks} {h0 h : Heap} {As : List HP} {pw : Addr} {w : Pow}
theorem format_spec (p : Pm) (extra : Int) (s : Sl) (l : List Int) (hS : St B h0 As fun h => Rd h s 1 intv l) (hl : l.length ≤ 2 ^ 20) (H : SpB B h0 h (PowA T_power_Power pw w :: As)) :
    Meets Tryz.prog store_Format_id #[pmv p, .int .i64 extra, .pointer (some pw), .slice s.ptr s.len s.cap] h fun v h' =>
      ((formatP p extra w l).1 ≠ 0 → v = .tuple #[.pointer none, .int .i64 (formatP p extra w l).1] ∧ SpB B h0 h' As) ∧
      ((formatP p extra w l).1 = 0 → ∃ (a : Addr) (x : ManV) (da : List (Option Addr)), v = .tuple #[.pointer (some a), .int .i64 0] ∧ SpB B h0 h' (CoreA kitC a pw (manL x) w.offs da (formatP p extra w l).2.1 (formatP p extra w l).2.2 :: ManA x (newMani p extra l) :: As)) := by
  refine store_Format_run p extra (some pw) s ?_
  unfold store_Format_m
  refine H.boxed fun a1 h1 H1 => ?_
  have H1 := H1.front1
  refine (places_spec s l h1 (hS.at [_, _] H1) hl).mono ?_
  rintro _ h2 ⟨r, rfl, R2⟩
  have H2 := H1.comp1 R2
  refine ⟨(r, (placesP l).2), rfl, ?_⟩
  have bad : ∀ {h' : Heap}, SpB B h0 h' As → ((placesP l).2 && (mayP p && inB extra 0 16)) = false →
      ((formatP p extra w l).1 ≠ 0 → Value.tuple #[.pointer none, .int .i64 1] = .tuple #[.pointer none, .int .i64 (formatP p extra w l).1] ∧ SpB B h0 h' As) ∧
      ((formatP p extra w l).1 = 0 → ∃ (a : Addr) (x : ManV) (da : List (Option Addr)), Value.tuple #[.pointer none, .int .i64 1] = .tuple #[.pointer (some a), .int .i64 0] ∧ SpB B h0 h' (CoreA kitC a pw (manL x) w.offs da (formatP p extra w l).2.1 (formatP p extra w l).2.2 :: ManA x (newMani p extra l) :: As)) := fun {h'} H' hc => by
    have e : formatP p extra w l = (1, w, []) := by unfold formatP; rw [hc]; rfl
    rw [e]
    exact ⟨fun _ => ⟨rfl, H'⟩, fun h => absurd h (show ¬ (1 : Int) = 0 by decide)⟩
  refine join_in (br_not (fun e => bad H2.rest.rest.rest (by rw [e]; rfl)) fun e => ?_)
  have ep : (placesP l).2 = true := by simpa using e
  obtain ⟨ep1, el64, el512⟩ := placesP_ok ep
  refine ⟨p, (H2.box 1 rfl).cells0 _ rfl, (pre_May_spec p h2).mono ?_⟩
  rintro _ h3 ⟨rfl, R3⟩
  have H3 : SpB B h0 h3 (OwnA T_int r 1 intv (placesP l).1 :: BoxA a1 T_api_Params [.int .i64 p.1, .int .i64 p.2.1, .int .i64 p.2.2] :: PowA T_power_Power pw w :: As) := by
    have := H2.comp R3
    rw [List.append_nil] at this; exact this
  refine ⟨_, rfl, br_not (fun e2 => bad H3.rest.rest.rest (by rw [e2]; simp)) fun e2 => ?_⟩
  have em : mayP p = true := by simpa using e2
  refine br_dec (fun e3 => bad H3.rest.rest.rest (by unfold inB; simp; omega)) fun e3 => br_dec (fun e4 => bad H3.rest.rest.rest (by unfold inB; simp; omega)) fun e4 => br_b (fun e5 => by cases e5) fun _ => ?_
  rw [ep1] at H3
  refine join_in ⟨p, (H3.box 1 rfl).cells0 _ rfl, ?_⟩
  obtain ⟨lw, hlw, H3p⟩ := (H3.selT 3 [2, 1, 0]).powOpen
  refine (offs_spec lw (H3p.box 0 rfl)).mono ?_
  rintro _ h4 ⟨rfl, rfl⟩
  have hb3 := H3.box 1 rfl
  refine ⟨_, rfl, ⟨hb3.cell0 rfl, hb3.cell rfl, hb3.cell rfl, trivial⟩, ?_⟩
  obtain ⟨m, hm⟩ : ∃ m, m = newMani p extra l := ⟨_, rfl⟩
  refine ⟨_, storBuild (1, 0, p.1, p.2.1, p.2.2, extra, r, ⟨none, 0, 0⟩) pw w.offs, ?_⟩
  refine H3.boxed fun a9 h6 H6 => ?_
  obtain ⟨x, hx⟩ : ∃ x : ManV, x = (1, 0, p.1, p.2.1, p.2.2, extra, r, ⟨none, 0, 0⟩) := ⟨_, rfl⟩
  rw [← hx] at H6
  have ecell : (Value.agg (storC (manL x) pw w.offs (List.replicate 64 none)).toArray).cells.toList = storC (manL x) pw w.offs (List.replicate 64 none) := by simp [Value.cells]
  rw [ecell] at H6
  have H6 := H6.front1
  have hb6 := H6.box 2 rfl
  refine ⟨⟨hb6.cell0 rfl, hb6.cell rfl, hb6.cell rfl, trivial⟩, ?_⟩
  have H6 : SpB B h0 h6 (BoxA a9 T_store_Store (storC (manL x) pw w.offs (List.replicate 64 none)) :: PowA T_power_Power pw w :: OwnA T_int r 1 intv (placesAt l l.length) :: As) := H6.selT 4 [0, 3, 1]
  have H6 := SpB.coreFresh (k := kitC) (h8 := by simp) H6
  obtain ⟨P, hP⟩ : ∃ P, P = placesAt l l.length := ⟨_, rfl⟩
  rw [← hP] at H6
  have hz : ManSz m := hm ▸ newMani_sz p extra l el64
  have hPl : P.length ≤ 64 := by rw [hP]; exact Nat.le_trans (placesAt_len _ _) el64
  have hmx : ∀ {h' : Heap} {Bs : List HP} {X : HP}, SpB B h0 h' (X :: OwnA T_int r 1 intv P :: Bs) → RdM h' x m := fun {h' Bs X} H' => by
    have hs := H'.seq 1 rfl fun _ => rfl
    have hc := (H'.own 1 rfl).cap
    subst hx; subst hm
    exact ⟨rfl, rfl, rfl, rfl, by show Seq _ _ r 1 intv (placesAt l l.length); rw [← hP]; exact hs, EltL.nil _ _ _ _, hc, Nat.le_refl _⟩
  have hok : ((placesP l).2 && (mayP p && inB extra 0 16)) = true := by
    rw [ep, em]; unfold inB; simp; omega
  have fokP : (P.any fun i => decide (l.getD i.toNat 0 < ((splitM m).length : Int))) = true → formatP p extra w l = (7, w, []) := fun hh => by
    unfold formatP; rw [if_pos hok, ← hP, ← hm, if_pos hh]
  have fokN : (P.any fun i => decide (l.getD i.toNat 0 < ((splitM m).length : Int))) = false → formatP p extra w l = layAll (pagesOf m P) w (newDrvs l P.length) := fun hh => by
    unfold formatP; rw [if_pos hok, ← hP, ← hm, hh, if_neg (by decide)]
  have hat : ∀ i (hi : i < P.length), ∃ n : Nat, n < l.length ∧ P[i] = (n : Int) ∧ 0 < l.getD n 0 := by
    subst hP; exact fun i hi => placesAt_at l l.length i hi
  refine loop_inv (fun i : Nat => (i : Int)) (fun i h' => i ≤ P.length ∧ ((P.take i).any fun i => decide (l.getD i.toNat 0 < ((splitM m).length : Int))) = false ∧ SpB B h0 h' (CoreA kitC a9 pw (manL x) w.offs (List.replicate 64 none) w (List.replicate 64 none) :: OwnA T_int r 1 intv P :: As)) (fun i => P.length - i) 0 rfl ⟨by omega, by simp, H6⟩ ?_
  rintro i h7 ⟨hi, hall, H7⟩
  dsimp only at *
  obtain ⟨okc, hb7⟩ := SpB.coreBox H7
  have hrl : r.len = P.length := (H7.own 1 rfl).len
  refine br_dec (fun e5 => ?_) (fun e5 => ?_)
  · have hi' : i < P.length := by omega
    obtain ⟨n, hn, en, hpos⟩ := hat i hi'
    refine (H7.seq 1 rfl fun _ => rfl).get1 i rfl hi' (n : Int) (by rw [en]; rfl) ?_
    refine (hS.at [_, _] H7).get1A n rfl hn (l.getD n 0) (by rw [getD_lt hn]; rfl) fun a14 hc14 => ?_
    refine ⟨a9, rfl, x, hb7.cells0 _ (by rfl), (split_spec x m h7 (hmx H7) hz).mono ?_⟩
    rintro _ h9 ⟨u, rfl, R9⟩
    have H9 := H7.comp1 R9
    have hul := (SpB.wLen H9).1
    refine ⟨u, rfl, held_grow R9.pres ⟨hc14, trivial⟩, ?_⟩
    refine br_dec (fun e6 => ?_) (fun e6 => ?_)
    · rw [fokP (List.any_eq_true.2 ⟨P[i], List.getElem_mem hi', by rw [en, Int.toNat_natCast]; exact decide_eq_true (by omega)⟩)]
      exact ⟨fun _ => ⟨rfl, H9.rest.rest.rest⟩, fun h => absurd h (show ¬ (7 : Int) = 0 by decide)⟩
    · refine ⟨i + 1, by rw [Go.Vc.wrap_small _ (by omega) (by omega)]; rfl, ⟨by omega, ?_, H9.rest⟩, by omega⟩
      rw [take_snoc _ _ hi', List.any_append, hall, Bool.false_or, List.any_cons, List.any_nil, Bool.or_false, en, Int.toNat_natCast]
      exact decide_eq_false (by omega)
  · have hPi : i = P.length := by omega
    subst hPi
    rw [List.take_length] at hall
    have fok := fokN hall
    rw [← newDrvs_zero l] at H7
    refine loop_inv (fun t : Nat × List (Option Addr) => (t.1 : Int)) (fun t h' => t.1 ≤ P.length ∧ SpB B h0 h' (CoreA kitC a9 pw (manL x) w.offs t.2 w (newDrvs l t.1) :: OwnA T_int r 1 intv P :: As)) (fun t => P.length - t.1) (0, List.replicate 64 none) rfl ⟨by simp, H7⟩ ?_
    rintro ⟨i, da⟩ h10 ⟨hi, H10⟩
    dsimp only at *
    obtain ⟨okd, hb10⟩ := SpB.coreBox H10
    refine br_dec (fun e6 => ?_) (fun e6 => ?_)
    · have hi' : i < P.length := by omega
      obtain ⟨n, hn, en, hpos⟩ := hat i hi'
      have h512 := el512 n
      refine (H10.seq 1 rfl fun _ => rfl).get1 i rfl hi' (n : Int) (by rw [en]; rfl) ?_
      refine (hS.at [_, _] H10).get1 n rfl hn (l.getD n 0) (by rw [getD_lt hn]; rfl) ?_
      refine ⟨a9, rfl, (dvnew_spec (l.getD n 0) pw h10).mono ?_⟩
      rintro _ h11 ⟨Q1, _⟩
      obtain ⟨b, rfl, R11⟩ := Q1 (by omega)
      have H11 := (H10.comp1 R11).selT 2 [1, 0]
      refine ⟨_, rfl, trivial, ⟨by omega, by omega⟩, ?_⟩
      rw [Int.toNat_natCast, Nat.mul_one]
      have hiQ : i < (placesAt l l.length).length := by rw [← hP]; exact hi'
      have enQ : (placesAt l l.length)[i] = (n : Int) := by rw [← en]; simp only [hP]
      refine Go.Proofs.YtmaknfkhibljfaaGreat.SpB.drvStore n (by omega) (newDrvs_none l i n hiQ enQ (by omega)) H11 fun h12 H12 => ?_
      refine ⟨trivial, (i + 1, da.set n (some b)), by dsimp only; rw [Go.Vc.wrap_small _ (by omega) (by omega)]; rfl, ⟨by dsimp only; omega, ?_⟩, by dsimp only; omega⟩
      dsimp only
      rw [← newDrvs_succ l i n hiQ enQ (by omega)]
      exact H12
    · have hPi : i = P.length := by omega
      subst hPi
      refine ⟨a9, rfl, x, hb10.cells0 _ (by rfl), (lpages_spec x m r P h10 (hmx H10) hz (H10.seq 1 rfl fun _ => rfl) (by omega)).mono ?_⟩
      rintro _ h13 ⟨u, ys, rfl, R13⟩
      have H13 := (H10.comp1 R13).selT 2 [1, 0]
      refine ⟨u, rfl, ?_⟩
      have hspl := split_len m hz
      refine (lall_spec u ys (pagesOf m P) (St.thing 0 rfl fun _ hq => hq) ?_ ?_ H13).mono ?_
      · rw [pagesOf_len]
        have := Nat.mul_le_mul hPl hspl
        omega
      · intro y hy
        obtain ⟨hy1, hy2⟩ := pagesOf_mem hy
        obtain ⟨i, hi, e⟩ := List.getElem_of_mem hy1
        obtain ⟨n, hn, en, _⟩ := hat i hi
        rw [← e, en, hy2]
        exact ⟨⟨by omega, by omega⟩, by decide⟩
      rintro _ h14 ⟨rfl, H14⟩
      rw [fok]
      refine ⟨_, rfl, br_ne (fun e7 => ⟨fun _ => ⟨rfl, H14.rest.rest.rest⟩, fun h => absurd h e7⟩) fun e7 => ⟨fun h => absurd e7 h, fun _ => ⟨a9, x, da, rfl, ?_⟩⟩⟩
      rw [← hm]
      exact H14.drop2.weak 1 rfl fun q hq => by
        subst hx; subst hm
        exact ⟨rfl, rfl, rfl, rfl, by show Seq _ _ r 1 intv (placesAt l l.length); rw [← hP]; exact hq.1.seq (fun _ => rfl) hq.2, EltL.nil _ _ _ _, hq.1.cap, Nat.le_refl _⟩
end
end Go.Proofs.YtmaknfkhibljfaaGreat
namespace Go.Proofs.YtmaknfkhibljfaaGreat
open Go Go.Vc Go.Proofs Wl
section
set_option maxRecDepth 20000
variable {B : Blocks} {h0 h : Heap} {As : List HP} {a pw b : Addr} {mc : List Value} {offs : Int} {da : List (Option Addr)} {w : Pow} {ds : Drvs} {d : Drv}
theorem containsI_spec {p : Blocks} (s : Sl) (l : List Int) (x : Int) (h : Heap) (hs : Seq h p s 1 intv l) (hl : l.length ≤ 2 ^ 40) : Meets Tryz.prog slices_Contains_int_int_id #[.slice s.ptr s.len s.cap, .int .i64 x] h fun v h' => v = .bool (decide (x ∈ l)) ∧ h' = h := by
  refine slices_Contains_int_int_run s x ?_
  unfold slices_Contains_int_int_m
  refine (slices_Index_int_int_run s x (R := fun v h' => (∃ i : Int, v = .int .i64 i ∧ (decide (i ≥ 0) = decide (x ∈ l))) ∧ h' = h) ?_).mono ?_
  · unfold slices_Index_int_int_m
    have hsl := hs.len
    refine loop_inv (fun i : Nat => (i : Int)) (fun i h' => i ≤ l.length ∧ x ∉ l.take i ∧ h' = h) (fun i => l.length - i) 0 rfl ⟨by omega, by simp, rfl⟩ ?_
    rintro i h1 ⟨hi, hno, rfl⟩
    refine br_dec (fun e1 => ?_) (fun e1 => ?_)
    · have hi' : i < l.length := by
        have e' : (i : Int) < (s.len : Int) := e1
        omega
      refine hs.get1 i rfl hi' l[i] rfl ?_
      refine br_eq (fun e2 => ⟨⟨i, rfl, ?_⟩, rfl⟩) (fun e2 => ?_)
      · rw [decide_eq_true (show (i : Int) ≥ 0 by omega), decide_eq_true (by rw [e2]; exact List.getElem_mem hi')]
      · refine ⟨i + 1, by rw [Go.Vc.wrap_small _ (by omega) (by omega)]; rfl, ⟨by omega, fun hm => ?_, rfl⟩, by omega⟩
        rw [take_snoc _ _ hi'] at hm
        rcases List.mem_append.1 hm with hm | hm
        · exact hno hm
        · exact e2 (List.mem_singleton.1 hm)
    · have e' : ¬ (i : Int) < (s.len : Int) := e1
      rw [List.take_of_length_le (by omega)] at hno
      exact ⟨⟨-1, rfl, by rw [decide_eq_false hno]; rfl⟩, rfl⟩
  · rintro _ h1 ⟨⟨i, rfl, hi⟩, rfl⟩
    exact ⟨i, rfl, by rw [hi], rfl⟩
theorem fout_spec (H : SpB B h0 h (CoreA kitC a pw mc offs da w ds :: As)) : Meets Tryz.prog fleet_out_id #[.pointer (some a)] h fun v h' => v = .bool (downP w offs) ∧ h' = h := by
  refine fleet_out_run (some a) ?_
  unfold fleet_out_m
  refine br_b (fun e => by cases e) fun _ => (storeDown_spec H).mono ?_
  rintro _ _ ⟨rfl, rfl⟩
  exact ⟨_, rfl, rfl, rfl⟩
theorem foutNil_spec (h : Heap) : Meets Tryz.prog fleet_out_id #[.pointer none] h fun v h' => v = .bool true ∧ h' = h := by
  refine fleet_out_run none ?_
  unfold fleet_out_m
  exact br_b (fun _ => ⟨rfl, rfl⟩) fun e => by cases e
def rightB (slot cells : Int) : Bool := decide ((0 ≤ slot ∧ slot < 64) ∧ 1 ≤ cells ∧ cells ≤ 512)
theorem fright_spec (slot cells : Int) (h : Heap) : Meets Tryz.prog fleet_right_id #[.int .i64 slot, .int .i64 cells] h fun v h' => v = .bool (rightB slot cells) ∧ h' = h := by
  refine fleet_right_run slot cells ?_
  unfold fleet_right_m rightB
  refine br_dec (fun e1 => br_dec (fun e2 => br_dec (fun e3 => ⟨?_, rfl⟩) fun e3 => ⟨?_, rfl⟩) fun e2 => ⟨?_, rfl⟩) fun e1 => ⟨?_, rfl⟩
  · congr 1; rw [decide_eq_decide]; omega
  all_goals (rw [decide_eq_false (by omega)])
theorem addErr_spec (slot cells : Int) (x : ManV) (m : Mani) (hx : RdM h x m) (hz : ManSz m) (H : SpB B h0 h (CoreA kitC a pw (manL x) offs da w ds :: As)) (hc : downP w offs = true ∨ rightB slot cells = false ∨ slot ∈ m.drives) :
    Meets Tryz.prog fleet_Add_id #[.pointer (some a), .int .i64 slot, .int .i64 cells] h fun v h' => v = .int .i64 (if downP w offs then 14 else if rightB slot cells then 4 else 1) ∧ Sp h h' [] := by
  refine fleet_Add_run (some a) slot cells ?_
  unfold fleet_Add_m
  have hdl := hz.dr
  refine (fout_spec H).mono ?_
  rintro _ h1 ⟨rfl, rfl⟩
  refine ⟨_, rfl, br_b (fun e => ⟨by rw [e]; rfl, Sp.refl _⟩) fun e => ?_⟩
  refine (storeMani_spec x m hx hz H).mono ?_
  rintro _ h2 ⟨y, rfl, R2⟩
  refine ⟨y, rfl, R2.alloc C_ok rfl fun a3 h3 H3 => ?_⟩
  refine H3.storeAll C_ok 1 rfl rfl (manL y) rfl rfl rfl rfl fun h4 H4 => ?_
  have H4 : Sp h1 h4 [ManA y m, BoxA a3 T_api_Manifest (manL y)] := H4
  refine (fright_spec slot cells h4).mono ?_
  rintro _ h5 ⟨rfl, rfl⟩
  refine ⟨_, rfl, br_not (fun e2 => ⟨by rw [e, e2]; rfl, .zip H4.pres⟩) fun e2 => ?_⟩
  have hy : RdM h5 y m := H4.at 0 rfl
  refine ⟨y.2.2.2.2.2.2.1, (H4.box 1 rfl).cell rfl, (containsI_spec _ m.drives slot h5 hy.drives (by omega)).mono ?_⟩
  rintro _ h6 ⟨rfl, rfl⟩
  refine ⟨_, rfl, br_b (fun e3 => ⟨by rw [e, e2]; rfl, .zip H4.pres⟩) fun e3 => ?_⟩
  rcases hc with hc | hc | hc
  · rw [e] at hc; cases hc
  · rw [e2] at hc; cases hc
  · exact absurd hc (of_decide_eq_false e3)
theorem addNil_spec (slot cells : Int) (h : Heap) : Meets Tryz.prog fleet_Add_id #[.pointer none, .int .i64 slot, .int .i64 cells] h fun v h' => v = .int .i64 14 ∧ Sp h h' [] := by
  refine fleet_Add_run none slot cells ?_
  unfold fleet_Add_m
  refine (foutNil_spec h).mono ?_
  rintro _ h1 ⟨rfl, rfl⟩
  exact ⟨true, rfl, br_b (fun _ => ⟨rfl, Sp.refl _⟩) fun e => by cases e⟩
theorem retErr_spec (slot : Int) (x : ManV) (m : Mani) (hx : RdM h x m) (hz : ManSz m) (H : SpB B h0 h (CoreA kitC a pw (manL x) offs da w ds :: As)) (hc : downP w offs = true ∨ slot ∉ m.drives) :
    Meets Tryz.prog fleet_Retire_id #[.pointer (some a), .int .i64 slot] h fun v h' => v = .int .i64 (if downP w offs then 14 else 5) ∧ Sp h h' [] := by
  refine fleet_Retire_run (some a) slot ?_
  unfold fleet_Retire_m
  have hdl := hz.dr
  refine (Sp.refl h).boxed fun a0 h00 H00 => ?_
  have hx0 := hx.up H00.pres
  have H0 := H.up H00.pres
  refine (fout_spec H0).mono ?_
  rintro _ h1 ⟨rfl, rfl⟩
  refine ⟨_, rfl, br_b (fun e => ⟨by rw [e]; rfl, .zip H00.pres⟩) fun e => ?_⟩
  refine (storeMani_spec x m hx0 hz H0).mono ?_
  rintro _ h2 ⟨y, rfl, R2⟩
  have H2 : Sp h h2 [BoxA a0 T_int [.int .i64 slot], ManA y m] := H00.comp R2
  refine ⟨y, rfl, H2.alloc C_ok rfl fun a3 h3 H3 => ?_⟩
  refine H3.storeAll C_ok 2 rfl rfl (manL y) rfl rfl rfl rfl fun h4 H4 => ?_
  have H4 : Sp h h4 [BoxA a0 T_int [.int .i64 slot], ManA y m, BoxA a3 T_api_Manifest (manL y)] := H4
  have hy : RdM h4 y m := H4.at 1 rfl
  refine ⟨y.2.2.2.2.2.2.1, (H4.box 2 rfl).cell rfl, slot, (H4.box 0 rfl).cell0 rfl, (containsI_spec _ m.drives slot h4 hy.drives (by omega)).mono ?_⟩
  rintro _ h6 ⟨rfl, rfl⟩
  refine ⟨_, rfl, br_not (fun e3 => ⟨by rw [e]; rfl, .zip H4.pres⟩) fun e3 => ?_⟩
  rcases hc with hc | hc
  · rw [e] at hc; cases hc
  · exact absurd (of_decide_eq_true e3) hc
theorem retNil_spec (slot : Int) (h : Heap) : Meets Tryz.prog fleet_Retire_id #[.pointer none, .int .i64 slot] h fun v h' => v = .int .i64 14 ∧ Sp h h' [] := by
  refine fleet_Retire_run none slot ?_
  unfold fleet_Retire_m
  refine (Sp.refl h).boxed fun a0 h00 H00 => ?_
  refine (foutNil_spec h00).mono ?_
  rintro _ h1 ⟨rfl, rfl⟩
  exact ⟨true, rfl, br_b (fun _ => ⟨rfl, .zip H00.pres⟩) fun e => by cases e⟩
theorem replNil_spec (slot cells : Int) (h : Heap) : Meets Tryz.prog fleet_Replace_id #[.pointer none, .int .i64 slot, .int .i64 cells] h fun v h' => v = .int .i64 14 ∧ Sp h h' [] := by
  refine fleet_Replace_run none slot cells ?_
  unfold fleet_Replace_m
  refine (foutNil_spec h).mono ?_
  rintro _ h1 ⟨rfl, rfl⟩
  exact ⟨true, rfl, br_b (fun _ => ⟨rfl, Sp.refl _⟩) fun e => by cases e⟩
theorem loseNil_spec (slot : Int) (h : Heap) : Meets Tryz.prog fleet_Lose_id #[.pointer none, .int .i64 slot] h fun v h' => v = .int .i64 14 ∧ Sp h h' [] := by
  refine fleet_Lose_run none slot ?_
  unfold fleet_Lose_m
  refine (foutNil_spec h).mono ?_
  rintro _ h1 ⟨rfl, rfl⟩
  exact ⟨true, rfl, br_b (fun _ => ⟨rfl, Sp.refl _⟩) fun e => by cases e⟩
theorem replErr_spec (slot cells : Int) (x : ManV) (m : Mani) (hx : RdM h x m) (hz : ManSz m) (H : SpB B h0 h (CoreA kitC a pw (manL x) offs da w ds :: As)) (hc : downP w offs = true ∨ rightB slot cells = false ∨ slot ∉ m.drives ∨ slot ∈ liveOf ds m.drives) :
    Meets Tryz.prog fleet_Replace_id #[.pointer (some a), .int .i64 slot, .int .i64 cells] h fun v h' => v = .int .i64 (if downP w offs then 14 else if rightB slot cells = false then 1 else if slot ∉ m.drives then 5 else 4) ∧ Sp h h' [] := by
  refine fleet_Replace_run (some a) slot cells ?_
  unfold fleet_Replace_m
  have hdl := hz.dr
  refine (fout_spec H).mono ?_
  rintro _ h1 ⟨rfl, rfl⟩
  refine ⟨_, rfl, br_b (fun e => ⟨by rw [e]; rfl, Sp.refl _⟩) fun e => ?_⟩
  refine (storeMani_spec x m hx hz H).mono ?_
  rintro _ h2 ⟨y, rfl, R2⟩
  refine ⟨y, rfl, R2.alloc C_ok rfl fun a3 h3 H3 => ?_⟩
  refine H3.storeAll C_ok 1 rfl rfl (manL y) rfl rfl rfl rfl fun h4 H4 => ?_
  have H4 : Sp h1 h4 [ManA y m, BoxA a3 T_api_Manifest (manL y)] := H4
  refine (fright_spec slot cells h4).mono ?_
  rintro _ h5 ⟨rfl, rfl⟩
  refine ⟨_, rfl, br_not (fun e2 => ⟨by rw [e, e2]; rfl, .zip H4.pres⟩) fun e2 => ?_⟩
  have hy : RdM h5 y m := H4.at 0 rfl
  refine ⟨y.2.2.2.2.2.2.1, (H4.box 1 rfl).cell rfl, (containsI_spec _ m.drives slot h5 hy.drives (by omega)).mono ?_⟩
  rintro _ h6 ⟨rfl, rfl⟩
  refine ⟨_, rfl, br_not (fun e3 => ⟨by rw [e, e2, if_neg (by simp), if_neg (by simp), if_pos (of_decide_eq_false e3)], .zip H4.pres⟩) fun e3 => ?_⟩
  refine (storeLive_spec x m (hx.up H4.pres) hz (H.up H4.pres)).mono ?_
  rintro _ h7 ⟨r, rfl, R7⟩
  have hll : (liveOf ds m.drives).length ≤ m.drives.length := List.length_filter_le _ _
  refine ⟨r, rfl, (containsI_spec r _ slot h7 (R7.seq 0 rfl fun _ => rfl) (by omega)).mono ?_⟩
  rintro _ h8 ⟨rfl, rfl⟩
  refine ⟨_, rfl, br_b (fun e4 => ⟨by rw [e, e2, if_neg (by simp), if_neg (by simp), if_neg (fun hh => hh (of_decide_eq_true e3))], .zip (H4.comp R7).pres⟩) fun e4 => ?_⟩
  rcases hc with hc | hc | hc | hc
  · rw [e] at hc; cases hc
  · rw [e2] at hc; cases hc
  · exact absurd (of_decide_eq_true e3) hc
  · exact absurd hc (of_decide_eq_false e4)
theorem sset_spec (n : Nat) (hn : n < 64) (x : ManV) (H : SpB B h0 h (DrvA pw b d :: CoreA kitC a pw (manL x) offs da w ds :: As)) :
    Meets Tryz.prog store_Store_Set_id #[.pointer (some a), .int .i64 n, .pointer (some b)] h fun v h' => v = .tuple #[] ∧ SpB B h0 h' (CoreA kitC a pw (manL x) offs (da.set n (some b)) w (ds.set n (some d)) :: As) := by
  refine store_Store_Set_run (some a) n (some b) ?_
  unfold store_Store_Set_m
  refine br_b (fun _ => ?_) fun e => by cases e
  refine br_dec (fun _ => br_dec (fun _ => ?_) fun e => absurd (show (n : Int) < 64 by omega) e) fun e => absurd (show (n : Int) ≥ 0 by omega) e
  refine ⟨a, rfl, ⟨by omega, by omega⟩, ?_⟩
  rw [Int.toNat_natCast, Nat.mul_one]
  have H1 : SpB B h0 h (CoreA kitC a pw (manL x) offs da w ds :: DrvA pw b d :: As) := H.selT 2 [1, 0]
  obtain ⟨ok, H2⟩ := Go.Vc.SpB.coreOpen H1
  have he : (a.add 10).add n = a.add (10 + n) := by unfold Addr.add; simp [Nat.add_assoc]
  rw [he]
  refine H2.storeAt C_ok 0 rfl rfl rfl rfl rfl (by simp [ok.la]; omega) fun h' H3 => ?_
  rw [List.set_cons_zero, storC_set ok.l8] at H3
  exact ⟨rfl, SpB.coreSwap ok hn H3⟩
theorem replOk_spec (n : Nat) (hn : n < 64) (cells : Int) (x : ManV) (m : Mani) (hz : ManSz m) (H : SpB B h0 h (CoreA kitC a pw (manL x) offs da w ds :: ManA x m :: As)) (hd : downP w offs = false) (hr : rightB n cells = true) (hin : (n : Int) ∈ m.drives) (hl : (n : Int) ∉ liveOf ds m.drives) (hp : ((splitM m).length : Int) ≤ cells) :
    Meets Tryz.prog fleet_Replace_id #[.pointer (some a), .int .i64 n, .int .i64 cells] h fun v h' => v = .int .i64 (layAll (pagesOf m [(n : Int)]) w (ds.set n (some (Drv.new cells.toNat)))).1 ∧
      ∃ b, SpB B h0 h' (CoreA kitC a pw (manL x) offs (da.set n (some b)) (layAll (pagesOf m [(n : Int)]) w (ds.set n (some (Drv.new cells.toNat)))).2.1 (layAll (pagesOf m [(n : Int)]) w (ds.set n (some (Drv.new cells.toNat)))).2.2 :: ManA x m :: As) := by
  refine fleet_Replace_run (some a) n cells ?_
  unfold fleet_Replace_m
  have hdl := hz.dr
  have hspl := split_len m hz
  refine (fout_spec H).mono ?_
  rintro _ h1 ⟨rfl, rfl⟩
  refine ⟨_, rfl, br_b (fun e => by rw [hd] at e; cases e) fun e => ?_⟩
  refine (storeMani_spec x m (H.at 1 rfl) hz H).mono ?_
  rintro _ h2 ⟨y, rfl, R2⟩
  have H2 := H.comp1 R2
  refine ⟨y, rfl, H2.alloc C_ok rfl fun a3 h3 H3 => ?_⟩
  have H3 := H3.front1
  refine H3.storeAll C_ok 0 rfl rfl (manL y) rfl rfl rfl rfl fun h4 H4 => ?_
  have H4 : SpB B h0 h4 (BoxA a3 T_api_Manifest (manL y) :: ManA y m :: CoreA kitC a pw (manL x) offs da w ds :: ManA x m :: As) := H4
  refine (fright_spec n cells h4).mono ?_
  rintro _ h5 ⟨rfl, rfl⟩
  refine ⟨_, rfl, br_not (fun e2 => by rw [hr] at e2; cases e2) fun e2 => ?_⟩
  have hy : RdM h5 y m := H4.at 1 rfl
  refine ⟨y.2.2.2.2.2.2.1, (H4.box 0 rfl).cell rfl, (containsI_spec _ m.drives n h5 hy.drives (by omega)).mono ?_⟩
  rintro _ h6 ⟨rfl, rfl⟩
  refine ⟨_, rfl, br_not (fun e3 => absurd hin (of_decide_eq_false e3)) fun e3 => ?_⟩
  refine (storeLive_spec x m (H4.at 3 rfl) hz (H4.selT 4 [2, 0, 1, 3])).mono ?_
  rintro _ h7 ⟨r, rfl, R7⟩
  have hll : (liveOf ds m.drives).length ≤ m.drives.length := List.length_filter_le _ _
  have H7 := H4.up R7.pres
  refine ⟨r, rfl, (containsI_spec r _ n h7 (R7.seq 0 rfl fun _ => rfl) (by omega)).mono ?_⟩
  rintro _ h8 ⟨rfl, rfl⟩
  refine ⟨_, rfl, br_b (fun e4 => absurd (of_decide_eq_true e4) hl) fun e4 => ?_⟩
  refine ⟨y, (H7.box 0 rfl).cells0 _ rfl, (split_spec y m h8 (H7.at 1 rfl) hz).mono ?_⟩
  rintro _ h9 ⟨u, rfl, R9⟩
  have H9 := H7.comp1 R9
  have hul := (SpB.wLen H9).1
  refine ⟨u, rfl, br_dec (fun e5 => absurd hp (by omega)) fun e5 => ?_⟩
  have H9 := H9.rest
  refine (storePow_spec (H9.selT 3 [2, 0, 1])).mono ?_
  rintro _ h10 ⟨rfl, rfl⟩
  refine ⟨_, rfl, (dvnew_spec cells pw h10).mono ?_⟩
  have hrr := of_decide_eq_true hr
  rintro _ h11 ⟨Q1, _⟩
  obtain ⟨b, rfl, R11⟩ := Q1 ⟨hrr.2.1, hrr.2.2⟩
  have H11 := (H9.comp1 R11).selT 4 [0, 3, 1, 2]
  refine ⟨_, rfl, (sset_spec n hn x H11).mono ?_⟩
  rintro _ h12 ⟨rfl, H12⟩
  refine ⟨(), rfl, y, (H12.box 1 rfl).cells0 _ rfl, ?_⟩
  refine H12.lit C_ok intv eInt rfl [(n : Int)] rfl (show 1 * 1 ≤ 2 ^ 20 by decide) rfl fun q h13 H13 => ?_
  have H13 := H13.front1
  refine (lpages_spec y m q [(n : Int)] h13 (H13.at 3 rfl) hz (H13.seq 0 rfl fun _ => rfl) (by simp)).mono ?_
  rintro _ h14 ⟨u, ys, rfl, R14⟩
  have H14 := (H13.comp1 R14).selT 3 [2, 0]
  refine ⟨u, rfl, ?_⟩
  refine (lall_spec u ys (pagesOf m [(n : Int)]) (St.thing 0 rfl fun _ hq => hq) ?_ ?_ H14).mono ?_
  · rw [pagesOf_len]
    simp; omega
  · intro z hz
    obtain ⟨hy1, hy2⟩ := pagesOf_mem hz
    rw [List.mem_singleton.1 hy1, hy2]
    exact ⟨⟨by omega, by omega⟩, by decide⟩
  rintro _ h15 ⟨rfl, H15⟩
  exact ⟨_, rfl, rfl, b, H15.selT 5 [0, 4]⟩
theorem loseErr_spec (slot : Int) (x : ManV) (m : Mani) (hx : RdM h x m) (hz : ManSz m) (H : SpB B h0 h (CoreA kitC a pw (manL x) offs da w ds :: As)) (hc : downP w offs = true ∨ slot ∉ liveOf ds m.drives) :
    Meets Tryz.prog fleet_Lose_id #[.pointer (some a), .int .i64 slot] h fun v h' => v = .int .i64 (if downP w offs then 14 else 5) ∧ Sp h h' [] := by
  refine fleet_Lose_run (some a) slot ?_
  unfold fleet_Lose_m
  have hdl := hz.dr
  refine (fout_spec H).mono ?_
  rintro _ h1 ⟨rfl, rfl⟩
  refine ⟨_, rfl, br_b (fun e => ⟨by rw [e]; rfl, Sp.refl _⟩) fun e => ?_⟩
  refine (storeLive_spec x m hx hz H).mono ?_
  rintro _ h2 ⟨r, rfl, R2⟩
  have hll : (liveOf ds m.drives).length ≤ m.drives.length := List.length_filter_le _ _
  refine ⟨r, rfl, (containsI_spec r _ slot h2 (R2.seq 0 rfl fun _ => rfl) (by omega)).mono ?_⟩
  rintro _ h3 ⟨rfl, rfl⟩
  refine ⟨_, rfl, br_not (fun e3 => ⟨by rw [e]; rfl, .zip R2.pres⟩) fun e3 => ?_⟩
  rcases hc with hc | hc
  · rw [e] at hc; cases hc
  · exact absurd (of_decide_eq_true e3) hc
theorem dlose_spec (H : SpB B h0 h (DrvA pw b d :: As)) : Meets Tryz.prog drive_Drive_Lose_id #[.pointer (some b)] h fun v h' => v = .tuple #[] ∧ SpB B h0 h' (DrvA pw b d.lose :: As) := by
  refine drive_Drive_Lose_run (some b) ?_
  unfold drive_Drive_Lose_m
  obtain ⟨ok, s, sb, H1⟩ := H.dOpen
  refine br_b (fun _ => ?_) fun e => by cases e
  refine ⟨b, rfl, H1.store C_ok 0 rfl rfl 6 [.bool true] rfl rfl rfl (by simp [drvC]) fun h2 H2 => ?_⟩
  refine ⟨b, rfl, H2.store C_ok 0 rfl rfl 2 [.slice none 0 0] rfl rfl rfl (by simp [drvC]) fun h3 H3 => ?_⟩
  refine ⟨b, rfl, H3.store C_ok 0 rfl rfl 3 [.int .i64 0] rfl rfl rfl (by simp [drvC]) fun h4 H4 => ?_⟩
  refine ⟨b, rfl, H4.store C_ok 0 rfl rfl 4 [.slice none 0 0] rfl rfl rfl (by simp [drvC]) fun h5 H5 => ?_⟩
  refine ⟨b, rfl, H5.store C_ok 0 rfl rfl 5 [.bool false] rfl rfl rfl (by simp [drvC]) fun h6 H6 => ⟨rfl, ?_⟩⟩
  refine SpB.dClose (s := ⟨none, 0, 0⟩) (b := ⟨none, 0, 0⟩) ⟨Nat.le_refl _, Nat.zero_le _, ok.room, by simp [Drv.lose], Nat.zero_le _, by simp [Drv.lose]⟩ ?_
  exact ((H6.wNil T_sl_uint8 T_uint8 1 u8v).wNil T_sl_uint8 T_uint8 1 u8v).selT 5 [2, 0, 1]
theorem loseOk_spec (n : Nat) (x : ManV) (m : Mani) (hx : RdM h x m) (hz : ManSz m) (H : SpB B h0 h (CoreA kitC a pw (manL x) offs da w ds :: As)) (hd : downP w offs = false) (hl : (n : Int) ∈ liveOf ds m.drives) (hn : ds[n]? = some (some d)) :
    Meets Tryz.prog fleet_Lose_id #[.pointer (some a), .int .i64 n] h fun v h' => v = .int .i64 0 ∧ SpB B h0 h' (CoreA kitC a pw (manL x) offs da w (ds.set n (some d.lose)) :: As) := by
  refine fleet_Lose_run (some a) n ?_
  unfold fleet_Lose_m
  have hdl := hz.dr
  refine (fout_spec H).mono ?_
  rintro _ h1 ⟨rfl, rfl⟩
  refine ⟨_, rfl, br_b (fun e => by rw [hd] at e; cases e) fun e => ?_⟩
  refine (storeLive_spec x m hx hz H).mono ?_
  rintro _ h2 ⟨r, rfl, R2⟩
  have hll : (liveOf ds m.drives).length ≤ m.drives.length := List.length_filter_le _ _
  refine ⟨r, rfl, (containsI_spec r _ (n : Int) h2 (R2.seq 0 rfl fun _ => rfl) (by omega)).mono ?_⟩
  rintro _ h3 ⟨rfl, rfl⟩
  refine ⟨_, rfl, br_not (fun e3 => absurd hl (of_decide_eq_false e3)) fun e3 => ?_⟩
  have H3 := H.up R2.pres
  obtain ⟨ok, hb⟩ := SpB.coreBox H3
  refine (sdrive_spec (n : Int) ok hb).mono ?_
  rintro _ h4 ⟨rfl, rfl⟩
  obtain ⟨b, hb', H5⟩ := Go.Vc.SpB.coreDrive H3 hn
  have hn64 : n < 64 := by
    have := (List.getElem?_eq_some_iff.1 hb').1
    rw [ok.la] at this; exact this
  have hp : dptr da (n : Int) = some b := by unfold dptr; rw [if_pos (by omega), Int.toNat_natCast, hb']; rfl
  rw [hp]
  refine ⟨_, rfl, (dlose_spec H5).mono ?_⟩
  rintro _ h6 ⟨rfl, H6⟩
  exact ⟨(), rfl, rfl, Go.Vc.SpB.coreBack (k := kitC) (n := n) hb' H6⟩
end
end Go.Proofs.YtmaknfkhibljfaaGreat
namespace Wl
open Go
def Pow.calm (w : Pow) : Prop := w.off = false ∧ w.fuse = none
theorem calm_new : Pow.new.calm := ⟨rfl, rfl⟩
theorem calm_step {w : Pow} (h : w.calm) : w.step = (true, w) := by unfold Pow.step; rw [if_neg (by simp [h.1]), h.2]
theorem calm_append {w : Pow} (h : w.calm) (ds : Drvs) (x : Int) (b : List UInt8) : (appendAt w ds x b).2.1 = w := by
  unfold appendAt
  cases dAt ds x with
  | none => rfl
  | some d =>
    dsimp only
    unfold Drv.append
    split
    · rfl
    · split
      · rfl
      · split
        · rfl
        · split
          · rfl
          · rw [calm_step h]; rfl
theorem calm_sync {w : Pow} (h : w.calm) (ds : Drvs) (x : Int) : (syncAt w ds x).2.1 = w := by
  unfold syncAt
  cases dAt ds x with
  | none => rfl
  | some d =>
    dsimp only
    unfold Drv.sync
    split
    · rfl
    · rw [calm_step h]; rfl
theorem calm_appends {w : Pow} (h : w.calm) : ∀ (l : List (Int × List UInt8)) (ds : Drvs), (appends l w ds).2.1 = w
  | [], _ => rfl
  | x :: l, ds => by
    rw [appends_cons, calm_append h]
    split
    · exact calm_appends h l _
    · exact calm_append h _ _ _
theorem calm_syncs {w : Pow} (h : w.calm) : ∀ (l : List Int) (ds : Drvs), (syncs l w ds).2.1 = w
  | [], _ => rfl
  | x :: l, ds => by
    rw [syncs_cons, calm_sync h]
    split
    · exact calm_syncs h l _
    · exact calm_sync h _ _
theorem calm_lay {w : Pow} (h : w.calm) (l : List (Int × List UInt8)) (ds : Drvs) : (layAll l w ds).2.1 = w := by
  unfold layAll
  dsimp only
  rw [calm_appends h]
  split
  · exact calm_syncs h _ _
  · exact calm_appends h _ _
theorem append_calm {w : Pow} {d : Drv} {n : Nat} {b : List UInt8} (h : w.calm) (h1 : d.lost = false) (h2 : d.l.length + (n + 1) ≤ d.room) (hb : b.length = 64) : d.append w b = (0, w, { d with l := d.l ++ [b], wait := d.wait + 1, laid := [], has := false }) := by
  unfold Drv.append
  rw [if_neg (by omega), if_neg (by simp [h1]), if_neg (by omega), if_neg (by simp [h.1]), calm_step h]; rfl
theorem sync_calm {w : Pow} {d : Drv} (h : w.calm) (h1 : d.lost = false) : d.sync w = (0, w, { d with wait := 0, laid := [], has := false }) := by
  unfold Drv.sync
  rw [if_neg (by simp [h1]), calm_step h]; rfl
def putOn (ds : Drvs) (P : List (Int × List UInt8)) (s : Int) : Option Drv :=
  (dAt ds s).map fun d => { d with l := d.l ++ (P.filter (fun x => decide (x.1 = s))).map Prod.snd, wait := d.wait + (P.filter (fun x => decide (x.1 = s))).length, laid := if (P.filter (fun x => decide (x.1 = s))).isEmpty then d.laid else [], has := if (P.filter (fun x => decide (x.1 = s))).isEmpty then d.has else false }
theorem appends_calm {w : Pow} (h : w.calm) {S : List Int} : ∀ (P : List (Int × List UInt8)) (ds : Drvs), Fit ds S (P.map Prod.fst) → (∀ x ∈ P, x.1 ∈ S ∧ x.2.length = 64) →
    (appends P w ds).1 = 0 ∧ Fit (appends P w ds).2.2 S [] ∧ ∀ s, dAt (appends P w ds).2.2 s = putOn ds P s
  | [], ds, F, _ => ⟨rfl, F, fun s => by unfold putOn; show dAt ds s = _; cases dAt ds s <;> simp⟩
  | x :: P, ds, F, hP => by
    obtain ⟨d, hd, h1, h2⟩ := F.at_ x.1 (hP x (List.mem_cons_self ..)).1
    rw [List.map_cons, List.count_cons_self] at h2
    have hb := (hP x (List.mem_cons_self ..)).2
    obtain ⟨n, hn, hn64⟩ := dAt_range hd
    have hap := append_calm (n := (P.map Prod.fst).count x.1) h h1 (by omega) hb
    have e : appendAt w ds x.1 x.2 = (0, w, dSet ds x.1 { d with l := d.l ++ [x.2], wait := d.wait + 1, laid := [], has := false }) := by
      unfold appendAt; rw [hd]; dsimp only; rw [hap]
    obtain ⟨_, F'⟩ := appendAt_fits w x.2 (x := x.1) (Q := P.map Prod.fst) F (hP x (List.mem_cons_self ..)).1 hb
    rw [appends_cons, e]
    rw [e] at F'
    dsimp only at F' ⊢
    rw [if_pos rfl]
    obtain ⟨a1, a2, a3⟩ := appends_calm h P _ F' fun y hy => hP y (List.mem_cons_of_mem _ hy)
    refine ⟨a1, a2, fun s => ?_⟩
    rw [a3 s]
    unfold putOn
    rw [hn, dAt_set _ _ _ _ hn64 F.len, ← hn]
    by_cases hs : s = x.1
    · rw [if_pos hs, hs, hd]
      simp only [Option.map_some, List.filter_cons, decide_true, if_true, List.map_cons, List.length_cons, List.append_assoc, List.singleton_append, List.isEmpty_cons, Bool.false_eq_true, if_false]
      congr 1
      simp only [Drv.mk.injEq, true_and, and_true]
      refine ⟨by omega, ?_, ?_⟩ <;> split <;> rfl
    · rw [if_neg hs]
      simp only [List.filter_cons, decide_eq_true_eq, if_neg (show ¬ x.1 = s from fun hh => hs hh.symm)]
theorem syncs_calm {w : Pow} (h : w.calm) {S : List Int} : ∀ (l : List Int) (ds : Drvs), Fit ds S [] → (∀ x ∈ l, x ∈ S) →
    (syncs l w ds).1 = 0 ∧ Fit (syncs l w ds).2.2 S [] ∧ ∀ s, dAt (syncs l w ds).2.2 s = (dAt ds s).map fun d => if s ∈ l then { d with wait := 0, laid := [], has := false } else d
  | [], ds, F, _ => ⟨rfl, F, fun s => by show dAt ds s = _; cases dAt ds s <;> simp⟩
  | x :: l, ds, F, hl => by
    obtain ⟨d, hd, h1, h2⟩ := F.at_ x (hl x (List.mem_cons_self ..))
    obtain ⟨n, hn, hn64⟩ := dAt_range hd
    have e : syncAt w ds x = (0, w, dSet ds x { d with wait := 0, laid := [], has := false }) := by
      unfold syncAt; rw [hd]; dsimp only; rw [sync_calm h h1]
    obtain ⟨_, F'⟩ := syncAt_fits w F (hl x (List.mem_cons_self ..))
    rw [syncs_cons, e]
    rw [e] at F'
    dsimp only at F' ⊢
    rw [if_pos rfl]
    obtain ⟨a1, a2, a3⟩ := syncs_calm h l _ F' fun y hy => hl y (List.mem_cons_of_mem _ hy)
    refine ⟨a1, a2, fun s => ?_⟩
    rw [a3 s, hn, dAt_set _ _ _ _ hn64 F.len, ← hn]
    by_cases hs : s = x
    · subst hs
      rw [if_pos rfl, hd]
      simp only [Option.map_some, List.mem_cons, true_or, if_true]
      congr 1
      split <;> rfl
    · rw [if_neg hs]
      cases dAt ds s with
      | none => rfl
      | some d' => simp [hs]
end Wl
