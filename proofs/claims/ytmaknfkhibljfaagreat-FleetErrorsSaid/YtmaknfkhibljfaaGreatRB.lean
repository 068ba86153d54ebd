/- Part of the proofs that wellspringlaw30's laws answer true whatever the input reads, and leave it as it was; no condition. -/
import Derived.Test.YtmaknfkhibljfaaGreatKC
import Derived.Test.YtmaknfkhibljfaaGreatRA
import Derived.Test.YtmaknfkhibljfaaGreatKB
import Derived.Test.YtmaknfkhibljfaaGreatKA
set_option linter.unusedVariables false
set_option linter.unusedSimpArgs false
namespace Go.Vc
open Go Wl Go.Proofs.YtmaknfkhibljfaaGreat
theorem lay_calm {w : Pow} (h : w.calm) {S : List Int} (P : List (Int × List UInt8)) (ds : Drvs) (F : Fit ds S (P.map Prod.fst)) (hP : ∀ x ∈ P, x.1 ∈ S ∧ x.2.length = 64) :
    (layAll P w ds).1 = 0 ∧ Fit (layAll P w ds).2.2 S [] ∧ ∀ s, dAt (layAll P w ds).2.2 s = (putOn ds P s).map fun d => if s ∈ slotsUp (P.map Prod.fst) then { d with wait := 0, laid := [], has := false } else d := by
  obtain ⟨a1, a2, a3⟩ := appends_calm h P ds F hP
  have hw := calm_appends h P ds
  unfold layAll
  dsimp only
  rw [if_pos a1, hw]
  obtain ⟨b1, b2, b3⟩ := syncs_calm h (S := S) (slotsUp (P.map Prod.fst)) (appends P w ds).2.2 a2 fun x hx => by
    unfold slotsUp at hx
    have hx' := (List.mem_filter.1 hx).2
    obtain ⟨y, hy, rfl⟩ := List.mem_map.1 (of_decide_eq_true hx')
    exact (hP y hy).1
  exact ⟨b1, b2, fun s => by rw [b3 s, a3 s]⟩
theorem new_fit (p : Pm) (extra : Int) (l : List Int) (hl : l.length ≤ 64) (hm : ((placesAt l l.length).any fun i => decide (l.getD i.toNat 0 < ((splitM (newMani p extra l)).length : Int))) = false) :
    Fit (newDrvs l (placesAt l l.length).length) (placesAt l l.length) ((pagesOf (newMani p extra l) (placesAt l l.length)).map Prod.fst) := by
  refine ⟨newDrvs_len _ _, fun s hs => ?_⟩
  obtain ⟨n, hn, rfl, hpos⟩ := (placesAt_mem l l.length s).1 hs
  have hroom : ((splitM (newMani p extra l)).length : Int) ≤ l.getD n 0 := by
    have := List.any_eq_false.1 hm _ hs
    rw [Int.toNat_natCast] at this
    simpa using this
  refine ⟨Drv.new (l.getD n 0).toNat, ?_, rfl, ?_⟩
  · unfold dAt newDrvs
    rw [if_pos (by omega), Int.toNat_natCast, List.getElem?_map, List.getElem?_range (by omega), Option.map_some, List.take_length, if_pos hs]; rfl
  · rw [pagesOf_count]
    have := List.nodup_iff_count.1 (placesAt_nodup l l.length) (n : Int)
    have h2 : List.count (n : Int) (placesAt l l.length) * (splitM (newMani p extra l)).length ≤ 1 * (splitM (newMani p extra l)).length := Nat.mul_le_mul_right _ this
    simp only [Drv.new, List.length_nil]
    omega
theorem format_calm {p : Pm} {extra : Int} {l : List Int} (hl : l.length ≤ 64) (e0 : mayE p extra l = 0) :
    (formatP p extra Pow.new l).1 = 0 ∧ (formatP p extra Pow.new l).2.1 = Pow.new ∧ Fit (formatP p extra Pow.new l).2.2 (placesAt l l.length) [] := by
  rw [formatP_eq, if_pos e0]
  obtain ⟨a1, a2, _⟩ := lay_calm calm_new (S := placesAt l l.length) _ _ (new_fit p extra l hl (newMani_ok e0).2.2.2.2) fun x hx => pagesOf_mem hx
  exact ⟨a1, calm_lay calm_new _ _, a2⟩
theorem placesAt_rise (l : List Int) (k : Nat) : (placesAt l k).Pairwise (· < ·) := by
  unfold placesAt
  refine List.Pairwise.filter _ (List.pairwise_map.2 ?_)
  exact (List.pairwise_lt_range (n := k)).imp fun h => by omega
theorem rise_of {l : List Int} {most : Int} (h1 : l.Pairwise (· < ·)) (h2 : ∀ x ∈ l, 0 ≤ x ∧ x ≤ most) : riseB l most = true := by
  unfold riseB
  refine all_range_yes fun i hi => ?_
  unfold riseAt inB
  have hg : l.getD i 0 = l[i] := by rw [List.getD_eq_getElem?_getD, List.getElem?_eq_getElem hi]; rfl
  have := h2 l[i] (List.getElem_mem hi)
  rw [hg, decide_eq_true this.1, decide_eq_true this.2, Bool.true_and, Bool.true_and]
  by_cases h0 : i = 0
  · rw [decide_eq_true h0]; rfl
  · have hg' : l.getD (i - 1) 0 = l[i - 1] := by rw [List.getD_eq_getElem?_getD, List.getElem?_eq_getElem (by omega)]; rfl
    rw [hg', decide_eq_true (List.pairwise_iff_getElem.1 h1 (i - 1) i (by omega) hi (by omega)), Bool.or_true]
theorem mayM_new {p : Pm} {extra : Int} {l : List Int} (hl : l.length ≤ 64) (e0 : mayE p extra l = 0) : mayM (newMani p extra l) = true := by
  obtain ⟨h1, h2, h3, _⟩ := newMani_ok e0
  have hh : headB (newMani p extra l) = true := by
    unfold headB inB newMani
    simp [h1, h2, h3]
  have hr : riseB (newMani p extra l).drives 63 = true := rise_of (placesAt_rise l l.length) fun x hx => by
    obtain ⟨n, hn, rfl, _⟩ := (placesAt_mem l l.length x).1 hx
    omega
  unfold mayM
  rw [hh, hr]; rfl
theorem split_new_len (p : Pm) (extra : Int) (l : List Int) (hl : l.length ≤ 24) : (splitM (newMani p extra l)).length ≤ 1 := by
  unfold splitM manyP
  rw [List.length_map, List.length_range]
  have hp := placesAt_len l l.length
  have : (packM (newMani p extra l)).length ≤ 19 + 24 := by
    unfold packM
    split
    · simp only [List.length_append, highB_len, List.length_cons, List.length_nil, List.length_map, newMani, List.flatMap_nil]; omega
    · simp
  omega
theorem repl_calm {ds : Drvs} {n cells : Nat} {m : Mani} (hn : n < 64) (hl : ds.length = 64) (hs : (splitM m).length ≤ cells) (hm : mayM m = true) :
    (layAll (pagesOf m [(n : Int)]) Pow.new (ds.set n (some (Drv.new cells)))).1 = 0 ∧ (layAll (pagesOf m [(n : Int)]) Pow.new (ds.set n (some (Drv.new cells)))).2.1 = Pow.new ∧
      ∃ d, (layAll (pagesOf m [(n : Int)]) Pow.new (ds.set n (some (Drv.new cells)))).2.2[n]? = some (some d) ∧ d.lost = false ∧ wholeB m d.l = true := by
  have h0 : dAt (ds.set n (some (Drv.new cells))) (n : Int) = some (Drv.new cells) := by
    have := dAt_set ds n (Drv.new cells) (n : Int) hn hl
    rw [if_pos rfl] at this
    unfold dSet at this
    rw [Int.toNat_natCast] at this
    exact this
  have F : Fit (ds.set n (some (Drv.new cells))) [(n : Int)] ((pagesOf m [(n : Int)]).map Prod.fst) := ⟨by simp [hl], fun s hs' => by
    rw [List.mem_singleton.1 hs']
    refine ⟨Drv.new cells, h0, rfl, ?_⟩
    rw [pagesOf_count]
    simp [Drv.new, hs]⟩
  obtain ⟨a1, a2, a3⟩ := lay_calm calm_new (S := [(n : Int)]) _ _ F fun x hx => pagesOf_mem hx
  refine ⟨a1, calm_lay calm_new _ _, ?_⟩
  have e := a3 (n : Int)
  unfold putOn at e
  rw [h0, Option.map_some, Option.map_some] at e
  unfold dAt at e
  rw [if_pos (by omega), Int.toNat_natCast] at e
  generalize hX : (layAll (pagesOf m [(n : Int)]) Pow.new (ds.set n (some (Drv.new cells)))).2.2[n]? = X at e ⊢
  have hf : ((pagesOf m [(n : Int)]).filter fun x => decide (x.1 = (n : Int))).map Prod.snd = splitM m := by
    unfold pagesOf
    rw [List.flatMap_cons, List.flatMap_nil, List.append_nil, List.filter_map]
    have : ((fun x : Int × List UInt8 => decide (x.1 = (n : Int))) ∘ fun c => ((n : Int), c)) = fun _ => true := by funext c; simp
    rw [this, List.filter_eq_self.2 (fun _ _ => rfl), List.map_map]
    exact List.map_id _
  rw [hf] at e
  cases X with
  | none => cases e
  | some o =>
    cases o with
    | none => cases e
    | some d =>
      have e := Option.some.inj (show some d = some _ from e)
      refine ⟨d, rfl, ?_, ?_⟩
      · rw [e]; split <;> rfl
      · have hdl : d.l = splitM m := by rw [e]; split <;> rfl
        unfold wholeB
        rw [hm, hdl, Bool.true_and, List.all_eq_true]
        exact fun p hp => decide_eq_true hp
end Go.Vc
namespace Go.Proofs.YtmaknfkhibljfaaGreat
open Go Go.Vc Go.Proofs Wl
section
set_option maxRecDepth 20000
theorem rstorBuild (x : ManV) (pw : Addr) (offs : Int) : AlwaysV Tryz.prog (Instr.build T_wellspringref29_Store #[(0, manv x), (1, .pointer (some pw)), (2, .int .i64 offs)]) (.agg (storC (manL x) pw offs (List.replicate 64 none)).toArray) :=
  always_build C_ok (i := _) rfl rfl rfl (vs := [(0, manv x), (1, .pointer (some pw)), (2, .int .i64 offs)]) (cells := (storC (manL x) pw offs (List.replicate 64 none)).toArray) (by kernel_rfl)
variable {B : Blocks} {h0 h : Heap} {As : List HP} {a pw b : Addr} {x : ManV} {offs : Int} {da : List (Option Addr)} {w : Pow} {ds : Drvs} {d : Drv}
theorem SpB.rdrvStore (n : Nat) (hn : n < 64) (hd : ds[n]? = some none) (H : SpB B h0 h (CoreA kitR a pw (manL x) offs da w ds :: RDrvA pw b d :: As)) {K : Unit → Heap → Prop}
    (hk : ∀ h', SpB B h0 h' (CoreA kitR a pw (manL x) offs (da.set n (some b)) w (ds.set n (some d)) :: As) → K () h') :
    Runs Tryz.prog (Instr.storeAt T_ptr_wellspringref21_Drive (.pointer (some ((a.add 10).add n))) (.pointer (some b))) h K := by
  obtain ⟨ok, H1⟩ := Go.Vc.SpB.coreOpen H
  have he : (a.add 10).add n = a.add (10 + n) := by unfold Addr.add; simp [Nat.add_assoc]
  rw [he]
  refine H1.storeAt C_ok 0 rfl rfl rfl rfl rfl (by simp [ok.la]; omega) fun h' H2 => hk h' ?_
  rw [List.set_cons_zero, storC_set ok.l8] at H2
  exact SpB.coreAdd ok hn hd H2
theorem rformat_spec (p : Pm) (extra : Int) (s : Sl) (l : List Int) (hS : St B h0 As fun h => Rd h s 1 intv l) (hl : l.length ≤ 2 ^ 20) (H : SpB B h0 h (RPowA pw w :: As)) :
    Meets Tryz.prog wellspringref29_Format_id #[pmv p, .int .i64 extra, .pointer (some pw), .slice s.ptr s.len s.cap] h fun v h' =>
      ((formatP p extra w l).1 ≠ 0 → v = .tuple #[.pointer none, .int .i64 (formatP p extra w l).1] ∧ SpB B h0 h' As) ∧
      ((formatP p extra w l).1 = 0 → ∃ (a : Addr) (x : ManV) (da : List (Option Addr)), v = .tuple #[.pointer (some a), .int .i64 0] ∧ SpB B h0 h' (CoreA kitR a pw (manL x) w.offs da (formatP p extra w l).2.1 (formatP p extra w l).2.2 :: ManA x (newMani p extra l) :: As)) := by
  refine wellspringref29_Format_run p extra (some pw) s ?_
  unfold wellspringref29_Format_m
  refine H.boxed fun a1 h1 H1 => br_b (fun e => by cases e) fun _ => ?_
  have H1 : SpB B h0 h1 (BoxA a1 T_api_Params [.int .i64 p.1, .int .i64 p.2.1, .int .i64 p.2.2] :: RPowA pw w :: As) := H1.front1
  refine ⟨p, (H1.box 0 rfl).cells0 _ rfl, (rmayFormat_spec p extra s l h1 (hS.at [_, _] H1) hl).mono ?_⟩
  rintro _ h2 ⟨x, rfl, R2, R2'⟩
  refine ⟨(x, mayE p extra l), rfl, ?_⟩
  dsimp only
  by_cases e0 : mayE p extra l = 0
  case neg =>
    have ef : formatP p extra w l = (mayE p extra l, w, []) := by rw [formatP_eq, if_neg e0]
    rw [ef]
    have H2 := H1.up (R2 e0).pres
    refine H2.alloc C_ok rfl fun a4 h3 H3 => ?_
    refine H3.front1.storeAll C_ok 0 rfl rfl (manL x) rfl rfl rfl rfl fun h4 H4 => ?_
    exact br_ne (fun _ => ⟨fun _ => ⟨rfl, H4.rest.rest.rest⟩, fun h => absurd h e0⟩) fun e => absurd e e0
  have R2 := R2' e0
  obtain ⟨em, ex1, ex2, ep, eany⟩ := newMani_ok e0
  obtain ⟨ep1, el64, el512⟩ := placesP_ok ep
  have fok : formatP p extra w l = layAll (pagesOf (newMani p extra l) (placesAt l l.length)) w (newDrvs l (placesAt l l.length).length) := by rw [formatP_eq, if_pos e0]
  have f14 := formatP_lay p extra w l el64 eany
  rw [← fok] at f14
  obtain ⟨m, hm⟩ : ∃ m, m = newMani p extra l := ⟨_, rfl⟩
  obtain ⟨P, hP⟩ : ∃ P, P = placesAt l l.length := ⟨_, rfl⟩
  have hmd : m.drives = P := by rw [hm, hP]; rfl
  rw [← hm, ← hP] at fok
  rw [← hm] at R2
  have hz : ManSz m := hm ▸ newMani_sz p extra l el64
  have hPl : P.length ≤ 64 := by rw [hP]; exact Nat.le_trans (placesAt_len _ _) el64
  have H2 : SpB B h0 h2 (ManA x m :: RPowA pw w :: As) := (H1.drop1).comp1 R2
  refine H2.alloc C_ok rfl fun a4 h3 H3 => ?_
  refine H3.front1.storeAll C_ok 0 rfl rfl (manL x) rfl rfl rfl rfl fun h4 H4 => ?_
  have H4 : SpB B h0 h4 (BoxA a4 T_api_Manifest (manL x) :: ManA x m :: RPowA pw w :: As) := H4
  refine br_ne (fun e => absurd e0 e) fun _ => ?_
  obtain ⟨lw, hlw, H4p⟩ := (H4.selT 3 [2, 1, 0]).powOpen
  have hb4 := H4.box 0 rfl
  refine ⟨x, hb4.cells0 _ rfl, pw, rfl, w.offs, (H4p.box 0 rfl).cell rfl, _, rstorBuild x pw w.offs, ?_⟩
  refine H4.boxed fun a9 h5 H5 => ?_
  have ecell : (Value.agg (storC (manL x) pw w.offs (List.replicate 64 none)).toArray).cells.toList = storC (manL x) pw w.offs (List.replicate 64 none) := by simp [Value.cells]
  rw [ecell] at H5
  have H5 : SpB B h0 h5 (BoxA a9 T_wellspringref29_Store (storC (manL x) pw w.offs (List.replicate 64 none)) :: BoxA a4 T_api_Manifest (manL x) :: ManA x m :: RPowA pw w :: As) := H5.front1
  have hb5 := H5.box 1 rfl
  obtain ⟨lw5, hlw5, H5p⟩ := (H5.selT 4 [3, 0, 1, 2]).powOpen
  refine ⟨⟨(H5p.box 0 rfl).cell rfl, hb5.cell0 rfl, hb5.cell rfl, hb5.cell rfl, hb5.cell rfl, hb5.cell rfl, hb5.cell rfl, hb5.cell rfl, hb5.cell rfl, trivial⟩, ?_⟩
  have H5 := SpB.coreFresh (k := kitR) (h8 := by simp) (H5.selT 4 [0, 3, 1, 2])
  refine ⟨x.2.2.2.2.2.2.1, hb5.cell rfl, ?_⟩
  have hat : ∀ i (hi : i < P.length), ∃ n : Nat, n < l.length ∧ P[i] = (n : Int) ∧ 0 < l.getD n 0 := by
    subst hP; exact fun i hi => placesAt_at l l.length i hi
  rw [← newDrvs_zero l] at H5
  have hdr : ∀ {h' : Heap} {X Y : HP} {Bs : List HP}, SpB B h0 h' (X :: Y :: ManA x m :: Bs) → RdM h' x m := fun {h' X Y Bs} H' => H'.at 2 rfl
  have hxl := (hdr H5).drives.len
  rw [hmd] at hxl
  refine loop_inv (fun t : Nat × List (Option Addr) => (t.1 : Int)) (fun t h' => t.1 ≤ P.length ∧ SpB B h0 h' (CoreA kitR a9 pw (manL x) w.offs t.2 w (newDrvs l t.1) :: BoxA a4 T_api_Manifest (manL x) :: ManA x m :: As)) (fun t => P.length - t.1) (0, List.replicate 64 none) rfl ⟨by simp, H5⟩ ?_
  rintro ⟨i, da⟩ h10 ⟨hi, H10⟩
  dsimp only at *
  obtain ⟨okd, hb10⟩ := SpB.rcoreBox H10
  have hm10 := hdr H10
  have hd10 := hm10.drives
  rw [hmd] at hd10
  refine br_dec (fun e6 => ?_) (fun e6 => ?_)
  · have hi' : i < P.length := by omega
    obtain ⟨n, hn, en, hpos⟩ := hat i hi'
    have h512 := el512 n
    refine Seq.get1 (f := intv) hd10 i rfl hi' (n : Int) (by rw [en]; rfl) ?_
    refine (hS.at [_, _, _] H10).get1 n rfl hn (l.getD n 0) (by rw [getD_lt hn]; rfl) ?_
    refine ⟨a9, rfl, (rdvnew_spec (l.getD n 0) pw h10).mono ?_⟩
    rintro _ h11 ⟨Q1, _⟩
    obtain ⟨b, rfl, R11⟩ := Q1 (by omega)
    have H11 := (H10.comp1 R11).selT 4 [1, 0, 2, 3]
    refine ⟨_, rfl, trivial, ⟨by omega, by omega⟩, ?_⟩
    rw [Int.toNat_natCast, Nat.mul_one]
    have hiQ : i < (placesAt l l.length).length := by rw [← hP]; exact hi'
    have enQ : (placesAt l l.length)[i] = (n : Int) := by rw [← en]; simp only [hP]
    refine Go.Proofs.YtmaknfkhibljfaaGreat.SpB.rdrvStore n (by omega) (newDrvs_none l i n hiQ enQ (by omega)) H11 fun h12 H12 => ?_
    refine ⟨trivial, (i + 1, da.set n (some b)), by dsimp only; rw [Go.Vc.wrap_small _ (by omega) (by omega)]; rfl, ⟨by dsimp only; omega, ?_⟩, by dsimp only; omega⟩
    dsimp only
    rw [← newDrvs_succ l i n hiQ enQ (by omega)]
    exact H12
  · have hPi : i = P.length := by omega
    subst hPi
    refine ⟨x, (H10.box 1 rfl).cells0 _ rfl, x.2.2.2.2.2.2.1, (H10.box 1 rfl).cell rfl, ?_⟩
    have hHas : Has (newDrvs l P.length) P := ⟨newDrvs_len _ _, fun s hs => by
      obtain ⟨j, hj, ej⟩ := List.getElem_of_mem hs
      obtain ⟨n, hn, en, _⟩ := hat j hj
      rw [← ej, en]
      refine ⟨Drv.new (l.getD n 0).toNat, ?_⟩
      unfold dAt newDrvs
      rw [if_pos (by omega), Int.toNat_natCast, List.getElem?_map, List.getElem?_range (by omega), Option.map_some, if_pos (by rw [← hP, List.take_length, ← en]; exact List.getElem_mem hj)]; rfl⟩
    refine (rpages_spec (As := BoxA a4 T_api_Manifest (manL x) :: ManA x m :: As) x m x.2.2.2.2.2.2.1 P (St.mono (St.thing (A := ManA x m) 1 rfl fun h' hq => hq) fun h' hq => ⟨hq, by have := ManIs.drives hq; rw [hmd] at this; exact this⟩) hz (by omega) hHas H10).mono ?_
    rintro _ h14 ⟨rfl, H14⟩
    rw [← fok] at H14 ⊢
    refine ⟨_, rfl, br_ne (fun e7 => ⟨fun _ => ⟨?_, H14.rest.rest.rest⟩, fun h => absurd h e7⟩) fun e7 => ⟨fun h => absurd e7 h, fun _ => ⟨a9, x, da, rfl, ?_⟩⟩⟩
    · rcases f14 with f | f
      · exact absurd f e7
      · rw [f]
    · rw [← hm]; exact H14.drop2
end
end Go.Proofs.YtmaknfkhibljfaaGreat
namespace Go.Proofs.YtmaknfkhibljfaaGreat
open Go Go.Vc Go.Proofs Wl
set_option maxRecDepth 100000
theorem rsameMani_spec (x y : ManV) (m : Mani) (h : Heap) (hx : RdM h x m) (hy : RdM h y m) (hz : ManSz m) : Meets Tryz.prog wellspringref15_SameMani_id #[manv x, manv y] h fun v h' => v = .bool true ∧ Sp h h' [] := by
  refine wellspringref15_SameMani_run x y ?_
  unfold wellspringref15_SameMani_m
  refine (Sp.refl h).boxed fun a1 h1 H1 => ?_
  refine H1.boxed fun a2 h2 H2 => ?_
  have H2 : Sp h h2 [BoxA a1 T_api_Manifest (manL x), BoxA a2 T_api_Manifest (manL y)] := H2
  have b1 := H2.box 0 rfl
  have b2 := H2.box 1 rfl
  have hp1 : x.2.2.1 = m.p.1 := congrArg (·.1) hx.p
  have hp2 : x.2.2.2.1 = m.p.2.1 := congrArg (·.2.1) hx.p
  have hp3 : x.2.2.2.2.1 = m.p.2.2 := congrArg (·.2.2) hx.p
  have hq1 : y.2.2.1 = m.p.1 := congrArg (·.1) hy.p
  have hq2 : y.2.2.2.1 = m.p.2.1 := congrArg (·.2.1) hy.p
  have hq3 : y.2.2.2.2.1 = m.p.2.2 := congrArg (·.2.2) hy.p
  have hdl := hz.dr
  have hol := hz.ob
  have hxl := EltL.len hx.objs
  have hyl := EltL.len hy.objs
  refine join_in ⟨m.seq, by rw [← hx.seq]; exact b1.cell0 rfl, m.seq, by rw [← hy.seq]; exact b2.cell0 rfl, br_ne (fun e => absurd rfl e) fun _ => ?_⟩
  refine ⟨m.next, by rw [← hx.next]; exact b1.cell rfl, m.next, by rw [← hy.next]; exact b2.cell rfl, br_ne (fun e => absurd rfl e) fun _ => ?_⟩
  refine ⟨m.p, by rw [← hp1, ← hp2, ← hp3]; exact b1.part3 2 rfl rfl rfl, m.p, by rw [← hq1, ← hq2, ← hq3]; exact b2.part3 2 rfl rfl rfl, _, pq_neq _ _ m.p m.p, br_not (fun e => absurd e (by simp)) fun _ => ?_⟩
  refine ⟨m.extra, by rw [← hx.extra]; exact b1.cell rfl, m.extra, by rw [← hy.extra]; exact b2.cell rfl, br_ne (fun e => absurd rfl e) fun _ => ?_⟩
  refine ⟨x.2.2.2.2.2.2.1, b1.cell rfl, y.2.2.2.2.2.2.1, b2.cell rfl, (same_int_spec _ _ m.drives m.drives h2 (hx.up H2.pres).drives (hy.up H2.pres).drives (by omega)).mono ?_⟩
  rintro _ h3 ⟨rfl, rfl⟩
  refine ⟨_, rfl, br_not (fun e => absurd e (by simp)) fun _ => ⟨x.2.2.2.2.2.2.2, b1.cell rfl, y.2.2.2.2.2.2.2, b2.cell rfl, br_ne (fun e => absurd (by omega) e) fun _ => ?_⟩⟩
  refine ⟨x.2.2.2.2.2.2.2, b1.cell rfl, ?_⟩
  obtain ⟨us, F⟩ := EltL.fix hx.objs
  obtain ⟨vs, G⟩ := EltL.fix hy.objs
  have hul := F.2.1
  have hvl := G.2.1
  refine loop_inv (fun i : Nat => (i : Int)) (fun i h' => i ≤ m.objs.length ∧ Sp h h' [BoxA a1 T_api_Manifest (manL x), BoxA a2 T_api_Manifest (manL y)]) (fun i => m.objs.length - i) 0 rfl ⟨by omega, H2⟩ ?_
  rintro i h5 ⟨hi, H5⟩
  refine br_dec (fun e => ?_) (fun e => ?_)
  · have hi' : i < m.objs.length := by
      have e' : (i : Int) < (x.2.2.2.2.2.2.2.len : Int) := e
      omega
    obtain ⟨E, hE⟩ : ∃ E, E = m.objs[i] := ⟨_, rfl⟩
    have hz1 := hz.nm _ (List.getElem_mem hi')
    rw [← hE] at hz1
    obtain ⟨u, hu⟩ : ∃ u, u = us[i]'(by omega) := ⟨_, rfl⟩
    obtain ⟨v, hv⟩ : ∃ v, v = vs[i]'(by omega) := ⟨_, rfl⟩
    obtain ⟨a21, ha, zz, hc, hzz⟩ := F.1.getk (g := entv) (i := (i : Int)) i rfl (by omega) u (by rw [hu]) (K := fun t => t = u) rfl
    obtain ⟨a24, hb, zz2, hd, hzz2⟩ := G.1.getk (g := entv) (i := (i : Int)) i rfl (by omega) v (by rw [hv]) (K := fun t => t = v) rfl
    rw [hzz] at hc
    rw [hzz2] at hd
    obtain ⟨⟨u1, u2, u3⟩, u4⟩ := Fix.row F hi'
    obtain ⟨⟨v1, v2, v3⟩, v4⟩ := Fix.row G hi'
    rw [← hE, ← hu] at u1 u2 u3 u4
    rw [← hE, ← hv] at v1 v2 v3 v4
    refine join_cut (fun st h' => ∃ Bs, Sp h h' (BoxA a1 T_api_Manifest (manL x) :: BoxA a2 T_api_Manifest (manL y) :: BoxA st.1 T_api_Entry (entv u) :: BoxA st.2 T_api_Entry (entv v) :: Bs)) ?_ ?_
    · have keep : ∀ {h' : Heap} {Bs : List HP}, Sp h h' (BoxA a1 T_api_Manifest (manL x) :: BoxA a2 T_api_Manifest (manL y) :: Bs) →
          Held.ok [(a24.add ((i : Int).toNat * 4), (.string v.1)), ((a24.add ((i : Int).toNat * 4)).add 1, (.int .i64 v.2.1)), ((a24.add ((i : Int).toNat * 4)).add 2, (.int .i64 v.2.2.1)), ((a24.add ((i : Int).toNat * 4)).add 3, (.slice v.2.2.2.ptr v.2.2.2.len v.2.2.2.cap)), (a2.add 7, (.slice y.2.2.2.2.2.2.2.ptr y.2.2.2.2.2.2.2.len y.2.2.2.2.2.2.2.cap)), (a21.add ((i : Int).toNat * 4), (.string u.1)), ((a21.add ((i : Int).toNat * 4)).add 1, (.int .i64 u.2.1)), ((a21.add ((i : Int).toNat * 4)).add 2, (.int .i64 u.2.2.1)), ((a21.add ((i : Int).toNat * 4)).add 3, (.slice u.2.2.2.ptr u.2.2.2.len u.2.2.2.cap)), (a1.add 7, (.slice x.2.2.2.2.2.2.2.ptr x.2.2.2.2.2.2.2.len x.2.2.2.2.2.2.2.cap))] h' := fun {h' Bs} H' => by
        have hp := H'.pres
        exact ⟨hp.cell (lt_of_cell hd.1) hd.1, hp.cell (lt_of_cell hd.2.1) hd.2.1, hp.cell (lt_of_cell hd.2.2.1) hd.2.2.1, hp.cell (lt_of_cell hd.2.2.2.1) hd.2.2.2.1, (H'.box 1 rfl).cell rfl, hp.cell (lt_of_cell hc.1) hc.1, hp.cell (lt_of_cell hc.2.1) hc.2.1, hp.cell (lt_of_cell hc.2.2.1) hc.2.2.1, hp.cell (lt_of_cell hc.2.2.2.1) hc.2.2.2.1, (H'.box 0 rfl).cell rfl, trivial⟩
      have k5 := keep H5
      have hp := H5.pres
      refine ⟨x.2.2.2.2.2.2.2, (H5.box 0 rfl).cell rfl, a21, ha, u, ⟨hp.cell (lt_of_cell hc.1) hc.1, hp.cell (lt_of_cell hc.2.1) hc.2.1, hp.cell (lt_of_cell hc.2.2.1) hc.2.2.1, hp.cell (lt_of_cell hc.2.2.2.1) hc.2.2.2.1, trivial⟩, y.2.2.2.2.2.2.2, (H5.box 1 rfl).cell rfl, a24, hb, v, ⟨hp.cell (lt_of_cell hd.1) hd.1, hp.cell (lt_of_cell hd.2.1) hd.2.1, hp.cell (lt_of_cell hd.2.2.1) hd.2.2.1, hp.cell (lt_of_cell hd.2.2.2.1) hd.2.2.2.1, trivial⟩, ?_, ?_⟩
      · refine H5.alloc C_ok rfl fun a26 h6 H6 => ⟨keep H6, H6.alloc C_ok rfl fun a27 h7 H7 => ⟨keep H7, ?_⟩⟩
        refine H7.storeAll C_ok 2 rfl rfl (entv u) rfl rfl rfl rfl fun h8 H8 => ?_
        obtain ⟨k1, k2, k3, k4, k5, _⟩ := keep H8
        refine ⟨⟨k1, k2, k3, k4, k5, trivial⟩, H8.storeAll C_ok 3 rfl rfl (entv v) rfl rfl rfl rfl fun h9 H9 => ⟨trivial, [], H9⟩⟩
      · refine H5.alloc C_ok rfl fun a26 h6 H6 => ⟨keep H6, H6.alloc C_ok rfl fun a27 h7 H7 => ⟨keep H7, ?_⟩⟩
        refine H7.storeAll C_ok 3 rfl rfl (entv u) rfl rfl rfl rfl fun h8 H8 => ?_
        obtain ⟨k1, k2, k3, k4, k5, _⟩ := keep H8
        refine ⟨⟨k1, k2, k3, k4, k5, trivial⟩, H8.storeAll C_ok 2 rfl rfl (entv v) rfl rfl rfl rfl fun h9 H9 => ⟨trivial, [], H9.selT 4 [0, 1, 3, 2]⟩⟩
    · rintro ⟨s1, s2⟩ h9 ⟨Bs, H9⟩
      dsimp only at H9 ⊢
      have c1 := H9.box 2 rfl
      have c2 := H9.box 3 rfl
      have hlt := hz1.2
      refine ⟨E.name, by rw [← u1]; exact c1.cell0 rfl, E.name, by rw [← v1]; exact c2.cell0 rfl, br_not (fun e => absurd e (by simp)) fun _ => ?_⟩
      refine ⟨E.object, by rw [← u2]; exact c1.cell rfl, E.object, by rw [← v2]; exact c2.cell rfl, br_ne (fun e => absurd rfl e) fun _ => ?_⟩
      refine ⟨E.length, by rw [← u3]; exact c1.cell rfl, E.length, by rw [← v3]; exact c2.cell rfl, br_ne (fun e => absurd rfl e) fun _ => ?_⟩
      refine ⟨u.2.2.2, c1.cell rfl, v.2.2.2, c2.cell rfl, (same_int_spec _ _ E.tries E.tries h9 (Seq.up u4 H9.pres) (Seq.up v4 H9.pres) (by omega)).mono ?_⟩
      rintro _ h10 ⟨rfl, rfl⟩
      refine ⟨_, rfl, br_not (fun e => absurd e (by simp)) fun _ => ⟨i + 1, by rw [Go.Vc.wrap_small _ (by omega) (by omega)]; rfl, ⟨by omega, H9.selT 2 [0, 1] |>.headPart (As := [_, _])⟩, by omega⟩⟩
  · exact ⟨rfl, .zip H5.pres⟩
end Go.Proofs.YtmaknfkhibljfaaGreat
namespace Go.Proofs.YtmaknfkhibljfaaGreat
open Go Go.Vc Go.Proofs Wl
set_option maxRecDepth 100000
theorem rsameDrive_spec (s : Sl) (pw2 b : Addr) (d : Drv) (rs rb : Sl) (h : Heap) (hs : Rd2 h s 1 u8v d.l) (hb : Box h b T_wellspringref21_Drive (rdrvC pw2 d rs rb)) (hl : Rd2 h rs 1 u8v d.l) (ok : DrvOk d) :
    Meets Tryz.prog wellspringref21_SameDrive_id #[.int .i64 d.room, .int .i64 d.wait, .slice s.ptr s.len s.cap, .bool d.lost, .pointer (some b)] h fun v h' => v = .bool true ∧ h' = h := by
  refine wellspringref21_SameDrive_run d.room d.wait s d.lost (some b) ?_
  unfold wellspringref21_SameDrive_m
  have := ok.len; have := ok.room
  refine ⟨b, rfl, _, hb.cell0 rfl, br_eq (fun _ => ?_) fun e => absurd rfl e⟩
  refine ⟨b, rfl, _, hb.cell rfl, br_eq (fun _ => ?_) fun e => absurd rfl e⟩
  refine ⟨b, rfl, d.lost, hb.cell rfl, br_b (fun _ => ?_) fun e => absurd e (by simp)⟩
  refine ⟨b, rfl, rs, hb.cell rfl, (rowsB_spec s rs d.l d.l h hs hl (by omega) fun c hc => by rw [ok.cell c hc]; decide).mono ?_⟩
  rintro _ h1 ⟨rfl, rfl⟩
  exact ⟨_, rfl, by simp, rfl⟩
def wantC (d : Drv) (i : Int) : List UInt8 := if 0 ≤ i then d.l.getD i.toNat [] else []
section
variable {B B' : Blocks} {h0 h0' h h' : Heap} {As As' : List HP} {a b pw pw2 : Addr} {d : Drv}
theorem same22_spec (H : SpB B h0 h (DrvA pw a d :: As)) (H' : SpB B' h0' h (RDrvA pw2 b d :: As')) :
    Meets Tryz.prog wellspringlaw22_Same_id #[.pointer (some a), .pointer (some b)] h fun v h' => v = .bool true ∧ Sp h h' [] := by
  refine wellspringlaw22_Same_run (some a) (some b) ?_
  unfold wellspringlaw22_Same_m
  obtain ⟨s, sb, hb, hl, hsl⟩ := DrvA.box H
  obtain ⟨ok, rs, rb, hrb, hrl, hrsl⟩ := RDrvA.box H'
  have hlen := ok.len; have hroom := ok.room
  refine br_b (fun e => by cases e) fun _ => br_b (fun e => by cases e) fun _ => ⟨b, rfl, rs, hrb.cell rfl, b, rfl, rs, hrb.cell rfl, ?_⟩
  rw [Go.Vc.wrap_small ((rs.len : Int) - 1) (by omega) (by omega), hrsl]
  obtain ⟨L, hL⟩ : ∃ L : List Int, L = [-1, 0, (d.l.length : Int) - 1, (d.l.length : Int)] := ⟨_, rfl⟩
  have hLl : L.length = 4 := by rw [hL]; rfl
  refine (Sp.refl h).litHeld C_ok intv eInt rfl [-1, 0, (d.l.length : Int) - 1, (d.l.length : Int)] rfl (show 4 * 1 ≤ 2 ^ 20 by decide) rfl ⟨by rw [← hrsl]; exact hrb.cell rfl, by rw [← hrsl]; exact hrb.cell rfl, trivial⟩ ?_
  refine (Sp.refl h).lit C_ok intv eInt rfl [-1, 0, (d.l.length : Int) - 1, (d.l.length : Int)] rfl (show 4 * 1 ≤ 2 ^ 20 by decide) rfl fun v5 h1 H1 => ?_
  have H1 : Sp h h1 [OwnA T_int v5 1 intv L] := by rw [hL]; exact H1
  have hv5 := (H1.own 0 rfl).len
  refine loop_inv (fun i : Nat => (i : Int)) (fun i h' => i ≤ 4 ∧ Sp h h' [OwnA T_int v5 1 intv L]) (fun i => 4 - i) 0 rfl ⟨by omega, H1⟩ ?_
  rintro i h2 ⟨hi, H2⟩
  have hb2 := hb.pres H2.pres hb.lt
  have hrb2 := hrb.pres H2.pres hrb.lt
  have hl2 := hl.up H2.pres
  have hrl2 := hrl.up H2.pres
  refine br_dec (fun e => ?_) (fun e => ?_)
  · have hi' : i < L.length := by
      have e' : (i : Int) < (v5.len : Int) := e
      omega
    obtain ⟨x, hx⟩ : ∃ x, x = L[i] := ⟨_, rfl⟩
    have hxb : -1 ≤ x ∧ x ≤ d.l.length := by
      have : x ∈ L := by rw [hx]; exact List.getElem_mem hi'
      rw [hL] at this
      simp only [List.mem_cons, List.not_mem_nil, or_false] at this
      omega
    refine (H2.seq 0 rfl fun _ => rfl).get1 i rfl hi' x (by rw [hx]; rfl) ?_
    refine join_cut (fun r h' => h' = h2 ∧ Rd h2 r 1 u8v (wantC d x)) ?_ ?_
    · have nil_ : wantC d x = [] → Rd h2 ⟨none, 0, 0⟩ 1 u8v (wantC d x) := fun hh => by rw [hh]; exact Seq.nil _ _ _ _ _ _
      refine br_dec (fun e1 => ⟨b, rfl, rs, hrb2.cell rfl, br_dec (fun e2 => ?_) fun e2 => ⟨rfl, nil_ ?_⟩⟩) (fun e1 => ⟨rfl, nil_ ?_⟩)
      · refine ⟨b, rfl, rs, hrb2.cell rfl, hrl2.get x.toNat (by omega) (by omega) fun r hr => ⟨rfl, ?_⟩⟩
        unfold wantC
        rw [if_pos (by omega), getD_lt (show x.toNat < d.l.length by omega)]; exact hr
      · unfold wantC
        rw [if_pos (by omega), List.getD_eq_getElem?_getD, List.getElem?_eq_none (by omega)]; rfl
      · unfold wantC; rw [if_neg (by omega)]
    · rintro r _ ⟨rfl, hr⟩
      refine (read_spec s sb x hb2 hl2 ok.cell).mono ?_
      rintro _ h3 ⟨r16, rfl, R3⟩
      have hwl : (wantC d x).length ≤ 64 := by
        unfold wantC
        split
        · rw [List.getD_eq_getElem?_getD]
          cases hg : d.l[x.toNat]? with
          | none => simp
          | some c => simp [ok.cell c (List.mem_of_getElem? hg)]
        · simp
      refine ⟨r16, rfl, (sameB_spec r16 r (wantC d x) (wantC d x) h3 (R3.seq 0 rfl fun _ => rfl) (hr.up R3.pres) (by omega)).mono ?_⟩
      rintro _ h4 ⟨rfl, rfl⟩
      refine ⟨_, rfl, br_not (fun e => absurd e (by simp)) fun _ => ⟨i + 1, by rw [Go.Vc.wrap_small _ (by omega) (by omega)]; rfl, ⟨by omega, H2.up R3.pres⟩, by omega⟩⟩
  · have hrc : cellOf h2 (b.add 2) = some (.slice rs.ptr rs.len rs.cap) := hrb2.cell rfl
    refine ⟨b, rfl, rs, hrc, (dlen_spec s sb hb2 hsl).mono ?_⟩
    rintro _ _ ⟨rfl, rfl⟩
    refine ⟨_, rfl, ⟨hrc, trivial⟩, br_eq (fun _ => ?_) fun e => absurd (by omega) e⟩
    refine (room_spec s sb hb2).mono ?_
    rintro _ _ ⟨rfl, rfl⟩
    refine ⟨_, rfl, ⟨hrc, trivial⟩, (pend_spec s sb hb2).mono ?_⟩
    rintro _ h5 ⟨rfl, rfl⟩
    refine ⟨_, rfl, ⟨hrc, trivial⟩, (all_spec s sb hb2 hl2 ok).mono ?_⟩
    rintro _ h6 ⟨r, rfl, R6⟩
    have hb6 := hb2.pres R6.pres hb2.lt
    have hrb6 := hrb2.pres R6.pres hrb2.lt
    have hrc6 : cellOf h6 (b.add 2) = some (.slice rs.ptr rs.len rs.cap) := hrb6.cell rfl
    refine ⟨r, rfl, ⟨hrc6, trivial⟩, (lost_spec s sb hb6).mono ?_⟩
    rintro _ h7 ⟨rfl, rfl⟩
    refine ⟨_, rfl, ⟨hrc6, trivial⟩, (rsameDrive_spec r pw2 b d rs rb h7 (SpB.wRd R6 fun _ => rfl) hrb6 (hrl2.up R6.pres) ok).mono ?_⟩
    rintro _ h8 ⟨rfl, rfl⟩
    exact ⟨_, rfl, ⟨hrc6, trivial⟩, rfl, .zip (up H2.pres R6.pres)⟩
theorem same22Nil_spec (h : Heap) : Meets Tryz.prog wellspringlaw22_Same_id #[.pointer none, .pointer none] h fun v h' => v = .bool true ∧ Sp h h' [] := by
  refine wellspringlaw22_Same_run none none ?_
  unfold wellspringlaw22_Same_m
  exact br_b (fun e => by cases e) fun _ => br_b (fun _ => ⟨rfl, Sp.refl h⟩) fun e => by cases e
end
end Go.Proofs.YtmaknfkhibljfaaGreat
namespace Go.Proofs.YtmaknfkhibljfaaGreat
open Go Go.Vc Go.Proofs Wl
section
set_option maxRecDepth 20000
variable {B : Blocks} {h0 h : Heap} {As : List HP} {a a2 pw pw2 : Addr} {mc : List Value} {offs : Int} {da da2 : List (Option Addr)} {w : Pow} {ds : Drvs}
theorem rstoreLive_spec (x : ManV) (m : Mani) (hx : RdM h x m) (hz : ManSz m) (hin : ∀ y ∈ m.drives, 0 ≤ y ∧ y < 64) (H : SpB B h0 h (CoreA kitR a pw (manL x) offs da w ds :: As)) :
    Meets Tryz.prog wellspringref29_Store_Live_id #[.pointer (some a)] h fun v h' => ∃ r : Sl, v = .slice r.ptr r.len r.cap ∧ Sp h h' [OwnA T_int r 1 intv (liveOf ds m.drives)] := by
  refine wellspringref29_Store_Live_run (some a) ?_
  unfold wellspringref29_Store_Live_m
  obtain ⟨ok, hb⟩ := SpB.rcoreBox H
  have hdr := hz.dr
  refine ⟨a, rfl, x.2.2.2.2.2.2.1, hb.cell rfl, (rlive_spec _ m.drives hx.drives (by omega) hin H).mono ?_⟩
  rintro _ h1 ⟨r, rfl, R1⟩
  exact ⟨r, rfl, r, rfl, R1⟩
theorem SpB.rcorePow (H : SpB B h0 h (CoreA kitR a pw mc offs da w ds :: As)) : ∃ l, PowOk w l ∧ Box h pw T_wellspringref21_Power (powC w l) := by
  obtain ⟨ok, H1⟩ := Go.Vc.SpB.coreOpen H
  have H2 := H1.rest
  obtain ⟨l, hl, H3⟩ := SpB.powOpen H2
  exact ⟨l, hl, H3.box 0 rfl⟩
theorem rstoreDown_spec (H : SpB B h0 h (CoreA kitR a pw mc offs da w ds :: As)) :
    Meets Tryz.prog wellspringref29_Store_Down_id #[.pointer (some a)] h fun v h' => v = .bool (downP w offs) ∧ h' = h := by
  refine wellspringref29_Store_Down_run (some a) ?_
  unfold wellspringref29_Store_Down_m
  obtain ⟨ok, hb⟩ := SpB.rcoreBox H
  obtain ⟨l, hl, hp⟩ := SpB.rcorePow H
  have c8 : cellOf h (a.add 8) = some (.pointer (some pw)) := hb.cell (storC_pw ok.l8)
  have c9 : cellOf h (a.add 9) = some (.int .i64 offs) := hb.cell (storC_offs ok.l8)
  refine ⟨a, rfl, some pw, c8, pw, rfl, w.off, hp.cell0 rfl, br_b (fun e => ⟨by unfold downP; rw [e]; rfl, rfl⟩) fun e => ?_⟩
  refine ⟨a, rfl, some pw, c8, pw, rfl, w.offs, hp.cell rfl, a, rfl, offs, c9, by unfold downP; rw [e]; rfl, rfl⟩
theorem same29_spec (x x2 : ManV) (m : Mani) (hx : RdM h x m) (hx2 : RdM h x2 m) (hz : ManSz m) (hin : ∀ y ∈ m.drives, 0 ≤ y ∧ y < 64) {offs2 : Int} (hoffs : offs2 = offs)
    (H : SpB B h0 h (CoreA kitC a pw (manL x) offs da w ds :: CoreA kitR a2 pw2 (manL x2) offs2 da2 w ds :: As)) :
    Meets Tryz.prog wellspringlaw29_Same_id #[.pointer (some a), .pointer (some a2)] h fun v h' => v = .bool true ∧ Sp h h' [] := by
  subst hoffs
  refine wellspringlaw29_Same_run (some a) (some a2) ?_
  unfold wellspringlaw29_Same_m
  have HR := H.swap01
  refine br_b (fun e => by cases e) fun _ => br_b (fun e => by cases e) fun _ => ?_
  obtain ⟨ok, hb⟩ := SpB.coreBox H
  obtain ⟨ok2, hb2⟩ := SpB.rcoreBox HR
  obtain ⟨l2, hl2, hp2⟩ := SpB.rcorePow HR
  obtain ⟨l1, hl1, hp1⟩ := SpB.corePow H
  have hdl := hz.dr
  refine join_cut (fun _ h' => Sp h h' []) ?_ ?_
  · refine ⟨a2, rfl, x2, hb2.cells0 _ rfl, (storeMani_spec x m hx hz H).mono ?_⟩
    rintro _ h1 ⟨y, rfl, R1⟩
    have b1 := hb2.pres R1.pres hb2.lt
    refine ⟨y, rfl, ⟨b1.cell0 rfl, b1.cell rfl, b1.cell rfl, b1.cell rfl, b1.cell rfl, b1.cell rfl, b1.cell rfl, b1.cell rfl, trivial⟩, ?_⟩
    refine (rsameMani_spec y x2 m h1 (R1.at 0 rfl) (hx2.up R1.pres) hz).mono ?_
    rintro _ h2 ⟨rfl, R2⟩
    have P2 := up R1.pres R2.pres
    refine ⟨true, rfl, trivial, br_not (fun e => by cases e) fun _ => ?_⟩
    refine (storeLive_spec x m (hx.up P2) hz (SpB.up H P2)).mono ?_
    rintro _ h3 ⟨r5, rfl, R3⟩
    have P3 := up P2 R3.pres
    refine ⟨r5, rfl, trivial, (rstoreLive_spec x2 m (hx2.up P3) hz hin (SpB.up HR P3)).mono ?_⟩
    rintro _ h4 ⟨r6, rfl, R4⟩
    have P4 := up P3 R4.pres
    have hll : (liveOf ds m.drives).length ≤ m.drives.length := List.length_filter_le _ _
    refine ⟨r6, rfl, trivial, (same_int_spec r5 r6 _ _ h4 ((R3.seq 0 rfl fun _ => rfl).up R4.pres) (R4.seq 0 rfl fun _ => rfl) (by omega)).mono ?_⟩
    rintro _ h5 ⟨rfl, rfl⟩
    refine ⟨_, rfl, trivial, br_not (fun e => absurd e (by simp)) fun _ => ?_⟩
    refine (storeDown_spec (SpB.up H P4)).mono ?_
    rintro _ h6 ⟨rfl, rfl⟩
    refine ⟨_, rfl, trivial, (rstoreDown_spec (SpB.up HR P4)).mono ?_⟩
    rintro _ h7 ⟨rfl, rfl⟩
    refine ⟨_, rfl, trivial, br_not (fun e => absurd e (by simp)) fun _ => ?_⟩
    have c8 : cellOf h7 (a2.add 8) = some (.pointer (some pw2)) := (hb2.pres P4 hb2.lt).cell (storC_pw ok2.l8)
    have hp2' := hp2.pres P4 hp2.lt
    have c0 : cellOf h7 pw2 = some (.bool w.off) := hp2'.cell0 rfl
    have c3 : cellOf h7 (pw2.add 3) = some (.int .i64 w.offs) := hp2'.cell rfl
    have hp1' := hp1.pres P4 hp1.lt
    refine (storePow_spec (SpB.up H P4)).mono ?_
    rintro _ _ ⟨rfl, rfl⟩
    refine ⟨_, rfl, trivial, br_b (fun e => by cases e) fun _ => ?_⟩
    refine ⟨a2, rfl, some pw2, c8, pw2, rfl, w.off, c0, (storePow_spec (SpB.up H P4)).mono ?_⟩
    rintro _ _ ⟨rfl, rfl⟩
    refine ⟨_, rfl, ⟨c0, c8, trivial⟩, (on_spec l1 hp1').mono ?_⟩
    rintro _ _ ⟨rfl, rfl⟩
    refine ⟨_, rfl, ⟨c0, c8, trivial⟩, br_b (fun e => absurd e (by cases w.off <;> decide)) fun _ => ?_⟩
    refine ⟨a2, rfl, some pw2, c8, pw2, rfl, w.offs, c3, (storePow_spec (SpB.up H P4)).mono ?_⟩
    rintro _ _ ⟨rfl, rfl⟩
    refine ⟨_, rfl, ⟨c3, c8, c0, c8, trivial⟩, (offs_spec l1 hp1').mono ?_⟩
    rintro _ _ ⟨rfl, rfl⟩
    exact ⟨_, rfl, ⟨c3, c8, c0, c8, trivial⟩, br_ne (fun e => absurd rfl e) fun _ => .zip P4⟩
  · rintro _ h13 R13
    refine loop_inv (fun i : Nat => (i : Int)) (fun i h' => i ≤ 64 ∧ Sp h h' []) (fun i => 64 - i) 0 rfl ⟨by omega, R13⟩ ?_
    rintro i h14 ⟨hi, R14⟩
    have hb' := hb.pres R14.pres hb.lt
    have hb2' := hb2.pres R14.pres hb2.lt
    refine br_dec (fun e => ?_) (fun e => ?_)
    · have hi' : i < 64 := by omega
      obtain ⟨p, hp, hp'⟩ := rptr ok2 hb2' i hi'
      refine ⟨a2, rfl, ⟨by omega, by omega⟩, p, by rw [Int.toNat_natCast]; exact hp, (sdrive_spec (i : Int) ok hb').mono ?_⟩
      rintro _ _ ⟨rfl, rfl⟩
      refine ⟨_, rfl, ⟨by rw [Int.toNat_natCast]; exact hp, trivial⟩, ?_⟩
      have next : ∀ {h' : Heap}, Sp h h' [] → ∃ t' : Nat, IntKind.wrap .i64 ((i : Int) + 1) = (t' : Int) ∧ (t' ≤ 64 ∧ Sp h h' []) ∧ 64 - t' < 64 - i := fun R => ⟨i + 1, by rw [Go.Vc.wrap_small _ (by omega) (by omega)]; rfl, ⟨by omega, R⟩, by omega⟩
      have Hc := SpB.up H R14.pres
      have HcR := SpB.up HR R14.pres
      rcases at_cases ok (i : Int) with ⟨c1, c2⟩ | ⟨n, d, b, c0, c1, c2, c3, c4, c5⟩
      · rcases at_cases ok2 (i : Int) with ⟨g1, g2⟩ | ⟨n, d, b, g0, g1, g2, g3, g4, g5⟩
        · have : p = none := by
            unfold dptr at g2
            rw [if_pos (by omega), Int.toNat_natCast, hp'] at g2; exact g2
          subst this
          rw [c2]
          refine (same22Nil_spec _).mono ?_
          rintro _ h16 ⟨rfl, R16⟩
          exact ⟨true, rfl, trivial, br_not (fun e => by cases e) fun _ => next (SpB.up R14 R16.pres)⟩
        · rw [c1] at g3; cases g3
      · have c0 : i = n := by omega
        subst c0
        rw [c5]
        obtain ⟨b', hb', H5⟩ := Go.Vc.SpB.coreDrive Hc c2
        rw [c4] at hb'
        injection hb' with hb'
        injection hb' with hb'
        subst hb'
        obtain ⟨b2, hb2', H6⟩ := Go.Vc.SpB.coreDrive HcR c2
        rw [hp'] at hb2'
        injection hb2' with hb2'
        subst hb2'
        refine (same22_spec H5 H6).mono ?_
        rintro _ h16 ⟨rfl, R16⟩
        exact ⟨true, rfl, trivial, br_not (fun e => by cases e) fun _ => next (SpB.up R14 R16.pres)⟩
    · refine (sdrive_spec (-1) ok hb').mono ?_
      rintro _ _ ⟨rfl, rfl⟩
      have e1 : dptr da (-1) = none := by unfold dptr; rw [if_neg (by decide)]
      rw [e1]
      refine ⟨_, rfl, br_b (fun _ => ?_) fun e => by cases e⟩
      refine (sdrive_spec 64 ok hb').mono ?_
      rintro _ _ ⟨rfl, rfl⟩
      have e2 : dptr da 64 = none := by unfold dptr; rw [if_neg (by decide)]
      rw [e2]
      exact ⟨_, rfl, rfl, R14⟩
end
end Go.Proofs.YtmaknfkhibljfaaGreat
namespace Go.Vc
open Go Wl Go.Proofs.YtmaknfkhibljfaaGreat
def numP (l : List Int) (k : Nat) : Int := l.getD k 0
def cfgP (l : List Int) : Pm := smallP (numP l 0) (numP l 1) (numP l 2)
def cfgN (l : List Int) : Nat := (2 + numP l 4 % 4).toNat
def cfgC (l : List Int) : List Int := (List.range (cfgN l)).map fun i => 8 + numP l (5 + i) % 50
def cfgE (l : List Int) : Int := numP l 3 % 7
theorem cfgN_le (l : List Int) : 2 ≤ cfgN l ∧ cfgN l ≤ 5 := by unfold cfgN; omega
theorem cfgC_len (l : List Int) : (cfgC l).length = cfgN l := by simp [cfgC]
end Go.Vc
namespace Go.Proofs.YtmaknfkhibljfaaGreat
open Go Go.Vc Go.Proofs Wl
section
set_option maxRecDepth 20000
variable {B : Blocks} {h0 h : Heap} {As : List HP} {a pw : Addr} {offs : Int} {da : List (Option Addr)} {w : Pow} {ds : Drvs}
theorem num_spec (s : Sl) (l : List Int) (k : Nat) (h : Heap) (hs : Rd h s 1 intv l) : Meets Tryz.prog wellspringplay_Num_id #[.slice s.ptr s.len s.cap, .int .i64 k] h fun v h' => v = .int .i64 (numP l k) ∧ h' = h := by
  refine wellspringplay_Num_run s k ?_
  unfold wellspringplay_Num_m numP
  have hl := hs.len
  refine br_dec (fun e => ?_) (fun e => ⟨?_, rfl⟩)
  · have hk : k < l.length := by omega
    refine hs.get1 k rfl hk (l.getD k 0) (by rw [getD_lt hk]; rfl) ⟨rfl, rfl⟩
  · rw [List.getD_eq_getElem?_getD, List.getElem?_eq_none (by omega)]; rfl
theorem config_spec (s : Sl) (l : List Int) (h : Heap) (hs : Rd h s 1 intv l) : Meets Tryz.prog wellspringplay_Config_id #[.slice s.ptr s.len s.cap] h fun v h' => ∃ r : Sl, v = .tuple #[pmv (cfgP l), .int .i64 (cfgE l), .slice r.ptr r.len r.cap] ∧ Sp h h' [OwnA T_int r 1 intv (cfgC l)] := by
  refine wellspringplay_Config_run s ?_
  unfold wellspringplay_Config_m
  refine (Sp.refl h).alloc C_ok rfl fun a1 h1 H1 => ?_
  have hs1 := hs.up H1.pres
  refine (num_spec s l 0 h1 hs1).mono ?_
  rintro _ _ ⟨rfl, rfl⟩
  refine ⟨_, rfl, (num_spec s l 1 _ hs1).mono ?_⟩
  rintro _ _ ⟨rfl, rfl⟩
  refine ⟨_, rfl, (num_spec s l 2 _ hs1).mono ?_⟩
  rintro _ h4 ⟨rfl, rfl⟩
  refine ⟨_, rfl, (small_spec _ _ _ h4).mono ?_⟩
  rintro _ h5 ⟨rfl, R5⟩
  have H5 := H1.up R5.pres
  refine ⟨cfgP l, rfl, ?_⟩
  refine H5.alloc C_ok rfl fun a6 h6 H6 => ?_
  refine H6.storeAll C_ok 1 rfl rfl [.int .i64 (cfgP l).1, .int .i64 (cfgP l).2.1, .int .i64 (cfgP l).2.2] rfl rfl rfl rfl fun h7 H7 => ?_
  have H7 : Sp h h7 [OwnA T_int ⟨none, 0, 0⟩ 1 intv ((cfgC l).take 0), BoxA a6 T_api_Params [.int .i64 (cfgP l).1, .int .i64 (cfgP l).2.1, .int .i64 (cfgP l).2.2], BoxA a1 T_api_Params [.int .i64 0, .int .i64 0, .int .i64 0]] := (H7.nil T_int 1 intv).sel [2, 1, 0]
  have hn := cfgN_le l
  have hcl := cfgC_len l
  refine loop_inv (fun t : Sl × Nat => (t.1, (t.2 : Int))) (fun t h' => t.2 ≤ cfgN l ∧ Sp h h' [OwnA T_int t.1 1 intv ((cfgC l).take t.2), BoxA a6 T_api_Params [.int .i64 (cfgP l).1, .int .i64 (cfgP l).2.1, .int .i64 (cfgP l).2.2], BoxA a1 T_api_Params [.int .i64 0, .int .i64 0, .int .i64 0]]) (fun t => cfgN l - t.2) (⟨none, 0, 0⟩, 0) rfl ⟨by simp, H7⟩ ?_
  rintro ⟨o, i⟩ h8 ⟨hi, H8⟩
  dsimp only at *
  have hs8 := hs.up H8.pres
  refine (num_spec s l 4 h8 hs8).mono ?_
  rintro _ _ ⟨rfl, rfl⟩
  refine ⟨_, rfl, (within_spec _ 4 _ (by decide) (by decide)).mono ?_⟩
  rintro _ h8 ⟨rfl, rfl⟩
  refine ⟨_, rfl, ?_⟩
  have hb := H8.box 1 rfl
  dsimp only
  rw [Go.Vc.wrap_small (2 + numP l 4 % 4) (by omega) (by omega)]
  have ecn : 2 + numP l 4 % 4 = (cfgN l : Int) := by unfold cfgN; omega
  rw [ecn]
  refine br_dec (fun e => ?_) (fun e => ?_)
  · have hi' : i < cfgN l := by omega
    rw [Go.Vc.wrap_small ((5 : Int) + i) (by omega) (by omega)]
    have e5 : (5 : Int) + i = ((5 + i : Nat) : Int) := by omega
    rw [e5]
    refine (num_spec s l (5 + i) h8 hs8).mono ?_
    rintro _ _ ⟨rfl, rfl⟩
    refine ⟨_, rfl, (within_spec _ 50 _ (by decide) (by decide)).mono ?_⟩
    rintro _ h12 ⟨rfl, rfl⟩
    refine ⟨_, rfl, ?_⟩
    dsimp only
    rw [Go.Vc.wrap_small (8 + numP l (5 + i) % 50) (by omega) (by omega)]
    refine H8.push C_ok 0 rfl eInt rfl (by decide) (fun _ => rfl) one_int (8 + numP l (5 + i) % 50) rfl (by decide) (by simp; omega) fun o' h13 H13 => ?_
    refine ⟨(o', i + 1), by dsimp only; rw [Go.Vc.wrap_small _ (by omega) (by omega)]; rfl, ⟨by dsimp only; omega, ?_⟩, by dsimp only; omega⟩
    dsimp only
    rw [take_snoc _ _ (show i < (cfgC l).length by omega)]
    have e6 : (cfgC l)[i]'(by omega) = 8 + numP l (5 + i) % 50 := by simp [cfgC]
    rw [e6]; exact H13
  · have hin : i = cfgN l := by omega
    subst hin
    rw [List.take_of_length_le (by omega)] at H8
    have hc : Held.ok [(a6, (.int .i64 (cfgP l).1)), (a6.add 1, (.int .i64 (cfgP l).2.1)), (a6.add 2, (.int .i64 (cfgP l).2.2))] h8 := ⟨hb.cell0 rfl, hb.cell rfl, hb.cell rfl, trivial⟩
    refine ⟨cfgP l, hb.cells0 _ rfl, (num_spec s l 3 h8 hs8).mono ?_⟩
    rintro _ _ ⟨rfl, rfl⟩
    refine ⟨_, rfl, hc, (within_spec _ 7 _ (by decide) (by decide)).mono ?_⟩
    rintro _ h16 ⟨rfl, rfl⟩
    refine ⟨_, rfl, hc, ?_⟩
    refine H8.storeAll C_ok 2 rfl rfl [.int .i64 (cfgP l).1, .int .i64 (cfgP l).2.1, .int .i64 (cfgP l).2.2] rfl rfl rfl rfl fun h17 H17 => ⟨trivial, ?_⟩
    exact ⟨cfgP l, (H17.box 2 rfl).cells0 _ rfl, o, rfl, H17.sel [0]⟩
theorem wakes_ok : (formatP (1, 1, 1) 0 Pow.new [5]).1 = 0 := by decide +kernel
end
end Go.Proofs.YtmaknfkhibljfaaGreat
namespace Go.Proofs.YtmaknfkhibljfaaGreat
open Go Go.Vc Go.Proofs Wl
section
set_option maxRecDepth 20000
variable {B : Blocks} {h0 h : Heap} {As : List HP} {a pw b : Addr} {mc : List Value} {offs : Int} {da : List (Option Addr)} {w : Pow} {ds : Drvs} {d : Drv}
theorem wakes30_facts : downP (formatP (1, 1, 1) 0 Pow.new [5]).2.1 Pow.new.offs = false ∧ (3 : Int) ∉ liveOf (formatP (1, 1, 1) 0 Pow.new [5]).2.2 (newMani (1, 1, 1) 0 [5]).drives ∧ (0 : Int) ∈ (newMani (1, 1, 1) 0 [5]).drives := by decide +kernel
theorem wakes30_spec (h : Heap) : Meets Tryz.prog wellspringlaw30_wakes_id #[] h fun v h' => v = .bool true ∧ Sp h h' [] := by
  refine wellspringlaw30_wakes_run ?_
  unfold wellspringlaw30_wakes_m
  obtain ⟨f1, f2, f3⟩ := wakes30_facts
  refine (pnew_spec h).mono ?_
  rintro _ h1 ⟨pw, rfl, R1⟩
  refine ⟨_, rfl, ?_⟩
  refine R1.lit C_ok intv eInt rfl [5] rfl (show 1 * 1 ≤ 2 ^ 20 by decide) rfl fun s2 h2 H2 => ?_
  refine (format_spec (1, 1, 1) 0 s2 [5] (As := [OwnA T_int s2 1 intv [5]]) (St.thing 0 rfl fun h' hq => hq.1.seq (fun _ => rfl) hq.2) (by decide) H2).mono ?_
  rintro _ h3 ⟨_, Q⟩
  obtain ⟨a, x, da, rfl, H3⟩ := Q wakes_ok
  have hz : ManSz (newMani (1, 1, 1) 0 [5]) := newMani_sz _ _ _ (by decide)
  have hx : RdM h3 x (newMani (1, 1, 1) 0 [5]) := H3.at 1 rfl
  refine ⟨(some a, 0), rfl, br_eq (fun _ => ?_) fun e => absurd rfl e⟩
  refine (loseErr_spec 3 x _ hx hz H3 (.inr f2)).mono ?_
  rintro _ h4 ⟨rfl, R4⟩
  rw [f1, if_neg (by decide)]
  refine ⟨5, rfl, br_eq (fun _ => ?_) fun e => absurd rfl e⟩
  refine (addErr_spec 0 5 x _ (hx.up R4.pres) hz (H3.up R4.pres) (.inr (.inr f3))).mono ?_
  rintro _ h5 ⟨rfl, R5⟩
  rw [f1, if_neg (by decide), show rightB 0 5 = true by decide, if_pos rfl]
  exact ⟨4, rfl, rfl, .zip ((H3.up R4.pres).up R5.pres).pres⟩
abbrev bothD (l : List Int) : Drvs := (formatP (cfgP l) (cfgE l) Pow.new (cfgC l)).2.2
abbrev bothM (l : List Int) : Mani := newMani (cfgP l) (cfgE l) (cfgC l)
theorem both_spec (s : Sl) (l : List Int) (h : Heap) (hs : Rd h s 1 intv l) : Meets Tryz.prog wellspringlaw29_Both_id #[.slice s.ptr s.len s.cap] h fun v h' =>
    (mayE (cfgP l) (cfgE l) (cfgC l) ≠ 0 → v = .tuple #[.pointer none, .pointer none] ∧ Sp h h' []) ∧
    (mayE (cfgP l) (cfgE l) (cfgC l) = 0 → ∃ (a a2 pw pw2 : Addr) (x x2 : ManV) (da da2 : List (Option Addr)), v = .tuple #[.pointer (some a), .pointer (some a2)] ∧
      Sp h h' [CoreA kitC a pw (manL x) 0 da Pow.new (bothD l), ManA x (bothM l), CoreA kitR a2 pw2 (manL x2) 0 da2 Pow.new (bothD l), ManA x2 (bothM l)]) := by
  refine wellspringlaw29_Both_run s ?_
  unfold wellspringlaw29_Both_m
  refine (config_spec s l h hs).mono ?_
  rintro _ h1 ⟨r, rfl, R1⟩
  refine ⟨(cfgP l, cfgE l, r), rfl, ?_⟩
  have hcl := cfgC_len l
  have hcn := cfgN_le l
  refine R1.alloc C_ok rfl fun a2 h2 H2 => ?_
  refine H2.storeAll C_ok 1 rfl rfl [.int .i64 (cfgP l).1, .int .i64 (cfgP l).2.1, .int .i64 (cfgP l).2.2] rfl rfl rfl rfl fun h3 H3 => ?_
  have H3 : Sp h h3 [OwnA T_int r 1 intv (cfgC l), BoxA a2 T_api_Params [.int .i64 (cfgP l).1, .int .i64 (cfgP l).2.1, .int .i64 (cfgP l).2.2]] := H3
  refine (pnew_spec h3).mono ?_
  rintro _ h4 ⟨pw, rfl, R4⟩
  have H4 := H3.comp1 R4
  refine ⟨_, rfl, H4.boxed fun pw2 h5 H5 => ?_⟩
  have H5 : Sp h h5 [RPowA pw2 Pow.new, PowA T_power_Power pw Pow.new, OwnA T_int r 1 intv (cfgC l), BoxA a2 T_api_Params [.int .i64 (cfgP l).1, .int .i64 (cfgP l).2.1, .int .i64 (cfgP l).2.2]] := SpB.powClose (l := 0) (w := Pow.new) (fun k e => by cases e) H5.front1
  refine ⟨cfgP l, (H5.box 3 rfl).cells0 _ rfl, ?_⟩
  refine (format_spec (cfgP l) (cfgE l) r (cfgC l) (As := [RPowA pw2 Pow.new, OwnA T_int r 1 intv (cfgC l), BoxA a2 T_api_Params [.int .i64 (cfgP l).1, .int .i64 (cfgP l).2.1, .int .i64 (cfgP l).2.2]]) (St.thing 1 rfl fun h' hq => hq.1.seq (fun _ => rfl) hq.2) (by omega) (H5.selT 2 [1, 0])).mono ?_
  rintro _ h6 ⟨Q1, Q0⟩
  by_cases e0 : mayE (cfgP l) (cfgE l) (cfgC l) = 0
  · obtain ⟨f0, f1, _⟩ := format_calm (by omega) e0
    rw [f1] at Q0
    obtain ⟨a, x, da, rfl, H6⟩ := Q0 f0
    refine ⟨(some a, 0), rfl, cfgP l, (H6.box 4 rfl).cells0 _ rfl, ?_⟩
    refine (rformat_spec (cfgP l) (cfgE l) r (cfgC l) (As := [CoreA kitC a pw (manL x) Pow.new.offs da Pow.new (bothD l), ManA x (bothM l), OwnA T_int r 1 intv (cfgC l), BoxA a2 T_api_Params [.int .i64 (cfgP l).1, .int .i64 (cfgP l).2.1, .int .i64 (cfgP l).2.2]]) (St.thing 2 rfl fun h' hq => hq.1.seq (fun _ => rfl) hq.2) (by omega) (H6.selT 3 [2, 0, 1])).mono ?_
    rintro _ h7 ⟨_, P0⟩
    rw [f1] at P0
    obtain ⟨a2', x2, da2, rfl, H7⟩ := P0 f0
    refine ⟨(some a2', 0), rfl, fun h => absurd e0 h, fun _ => ⟨a, a2', pw, pw2, x, x2, da, da2, rfl, ?_⟩⟩
    exact (show SpB _ _ _ [CoreA kitR a2' pw2 (manL x2) 0 da2 Pow.new (bothD l), ManA x2 (bothM l), CoreA kitC a pw (manL x) 0 da Pow.new (bothD l), ManA x (bothM l), OwnA T_int r 1 intv (cfgC l), BoxA a2 T_api_Params [.int .i64 (cfgP l).1, .int .i64 (cfgP l).2.1, .int .i64 (cfgP l).2.2]] from H7).sel [2, 3, 0, 1]
  · have f0 : (formatP (cfgP l) (cfgE l) Pow.new (cfgC l)).1 ≠ 0 := by rw [formatP_eq, if_neg e0]; exact e0
    obtain ⟨rfl, H6⟩ := Q1 f0
    refine ⟨(none, _), rfl, cfgP l, (H6.box 2 rfl).cells0 _ rfl, ?_⟩
    refine (rformat_spec (cfgP l) (cfgE l) r (cfgC l) (As := [OwnA T_int r 1 intv (cfgC l), BoxA a2 T_api_Params [.int .i64 (cfgP l).1, .int .i64 (cfgP l).2.1, .int .i64 (cfgP l).2.2]]) (St.thing 0 rfl fun h' hq => hq.1.seq (fun _ => rfl) hq.2) (by omega) H6).mono ?_
    rintro _ h7 ⟨P1, _⟩
    obtain ⟨rfl, H7⟩ := P1 f0
    exact ⟨(none, _), rfl, fun _ => ⟨rfl, .zip H7.pres⟩, fun h => absurd h e0⟩
end
end Go.Proofs.YtmaknfkhibljfaaGreat
namespace Go.Proofs.YtmaknfkhibljfaaGreat
open Go Go.Vc Go.Proofs Wl
section
set_option maxRecDepth 20000
variable {B : Blocks} {h0 h : Heap} {As : List HP} {a pw b : Addr} {offs : Int} {da : List (Option Addr)} {w : Pow} {ds : Drvs} {d : Drv} {x : ManV} {m : Mani}
theorem addE (slot cells e : Int) (hz : ManSz m) (H : SpB B h0 h (CoreA kitC a pw (manL x) offs da w ds :: ManA x m :: As)) (hc : downP w offs = true ∨ rightB slot cells = false ∨ slot ∈ m.drives) (he : (if downP w offs then 14 else if rightB slot cells then 4 else 1) = e) :
    Meets Tryz.prog fleet_Add_id #[.pointer (some a), .int .i64 slot, .int .i64 cells] h fun v h' => v = .int .i64 e ∧ SpB B h0 h' (CoreA kitC a pw (manL x) offs da w ds :: ManA x m :: As) :=
  (addErr_spec slot cells x m (H.at 1 rfl) hz H hc).mono fun _ _ ⟨h1, h2⟩ => ⟨by rw [h1, he], H.up h2.pres⟩
theorem retE (slot e : Int) (hz : ManSz m) (H : SpB B h0 h (CoreA kitC a pw (manL x) offs da w ds :: ManA x m :: As)) (hc : downP w offs = true ∨ slot ∉ m.drives) (he : (if downP w offs then 14 else 5) = e) :
    Meets Tryz.prog fleet_Retire_id #[.pointer (some a), .int .i64 slot] h fun v h' => v = .int .i64 e ∧ SpB B h0 h' (CoreA kitC a pw (manL x) offs da w ds :: ManA x m :: As) :=
  (retErr_spec slot x m (H.at 1 rfl) hz H hc).mono fun _ _ ⟨h1, h2⟩ => ⟨by rw [h1, he], H.up h2.pres⟩
theorem loseE (slot e : Int) (hz : ManSz m) (H : SpB B h0 h (CoreA kitC a pw (manL x) offs da w ds :: ManA x m :: As)) (hc : downP w offs = true ∨ slot ∉ liveOf ds m.drives) (he : (if downP w offs then 14 else 5) = e) :
    Meets Tryz.prog fleet_Lose_id #[.pointer (some a), .int .i64 slot] h fun v h' => v = .int .i64 e ∧ SpB B h0 h' (CoreA kitC a pw (manL x) offs da w ds :: ManA x m :: As) :=
  (loseErr_spec slot x m (H.at 1 rfl) hz H hc).mono fun _ _ ⟨h1, h2⟩ => ⟨by rw [h1, he], H.up h2.pres⟩
theorem replE (slot cells e : Int) (hz : ManSz m) (H : SpB B h0 h (CoreA kitC a pw (manL x) offs da w ds :: ManA x m :: As)) (hc : downP w offs = true ∨ rightB slot cells = false ∨ slot ∉ m.drives ∨ slot ∈ liveOf ds m.drives) (he : (if downP w offs then 14 else if rightB slot cells = false then 1 else if slot ∉ m.drives then 5 else 4) = e) :
    Meets Tryz.prog fleet_Replace_id #[.pointer (some a), .int .i64 slot, .int .i64 cells] h fun v h' => v = .int .i64 e ∧ SpB B h0 h' (CoreA kitC a pw (manL x) offs da w ds :: ManA x m :: As) :=
  (replErr_spec slot cells x m (H.at 1 rfl) hz H hc).mono fun _ _ ⟨h1, h2⟩ => ⟨by rw [h1, he], H.up h2.pres⟩
theorem addD (o : Option Addr) (ho : o = some a ∨ o = none) (slot cells : Int) (hz : ManSz m) (hd : downP w offs = true) (H : SpB B h0 h (CoreA kitC a pw (manL x) offs da w ds :: ManA x m :: As)) :
    Meets Tryz.prog fleet_Add_id #[.pointer o, .int .i64 slot, .int .i64 cells] h fun v h' => v = .int .i64 14 ∧ SpB B h0 h' (CoreA kitC a pw (manL x) offs da w ds :: ManA x m :: As) := by
  rcases ho with rfl | rfl
  · exact addE slot cells 14 hz H (.inl hd) (by rw [hd]; rfl)
  · exact (addNil_spec slot cells h).mono fun _ _ ⟨h1, h2⟩ => ⟨h1, H.up h2.pres⟩
theorem retD (o : Option Addr) (ho : o = some a ∨ o = none) (slot : Int) (hz : ManSz m) (hd : downP w offs = true) (H : SpB B h0 h (CoreA kitC a pw (manL x) offs da w ds :: ManA x m :: As)) :
    Meets Tryz.prog fleet_Retire_id #[.pointer o, .int .i64 slot] h fun v h' => v = .int .i64 14 ∧ SpB B h0 h' (CoreA kitC a pw (manL x) offs da w ds :: ManA x m :: As) := by
  rcases ho with rfl | rfl
  · exact retE slot 14 hz H (.inl hd) (by rw [hd]; rfl)
  · exact (retNil_spec slot h).mono fun _ _ ⟨h1, h2⟩ => ⟨h1, H.up h2.pres⟩
theorem loseD (o : Option Addr) (ho : o = some a ∨ o = none) (slot : Int) (hz : ManSz m) (hd : downP w offs = true) (H : SpB B h0 h (CoreA kitC a pw (manL x) offs da w ds :: ManA x m :: As)) :
    Meets Tryz.prog fleet_Lose_id #[.pointer o, .int .i64 slot] h fun v h' => v = .int .i64 14 ∧ SpB B h0 h' (CoreA kitC a pw (manL x) offs da w ds :: ManA x m :: As) := by
  rcases ho with rfl | rfl
  · exact loseE slot 14 hz H (.inl hd) (by rw [hd]; rfl)
  · exact (loseNil_spec slot h).mono fun _ _ ⟨h1, h2⟩ => ⟨h1, H.up h2.pres⟩
theorem replD (o : Option Addr) (ho : o = some a ∨ o = none) (slot cells : Int) (hz : ManSz m) (hd : downP w offs = true) (H : SpB B h0 h (CoreA kitC a pw (manL x) offs da w ds :: ManA x m :: As)) :
    Meets Tryz.prog fleet_Replace_id #[.pointer o, .int .i64 slot, .int .i64 cells] h fun v h' => v = .int .i64 14 ∧ SpB B h0 h' (CoreA kitC a pw (manL x) offs da w ds :: ManA x m :: As) := by
  rcases ho with rfl | rfl
  · exact replE slot cells 14 hz H (.inl hd) (by rw [hd]; rfl)
  · exact (replNil_spec slot cells h).mono fun _ _ ⟨h1, h2⟩ => ⟨h1, H.up h2.pres⟩
theorem live_in {s : Int} {l : List Int} (h : s ∈ liveOf ds l) : s ∈ l := (List.mem_filter.1 h).1
theorem isLive_at {n : Nat} {d : Drv} (hn : n < 64) (h : ds[n]? = some (some d)) : isLive ds (n : Int) = !d.lost := by
  unfold isLive dAt; rw [if_pos (by omega), Int.toNat_natCast, h]; rfl
theorem fleetErrors_spec (s : Sl) (l : List Int) (slot cells : Int) (h : Heap) (hs : Rd h s 1 intv l) :
    Meets Tryz.prog wellspringlaw30_FleetErrors_id #[.slice s.ptr s.len s.cap, .int .i64 slot, .int .i64 cells] h fun v h' => v = .bool true ∧ Sp h h' [] := by
  refine wellspringlaw30_FleetErrors_run s slot cells ?_
  unfold wellspringlaw30_FleetErrors_m
  refine (both_spec s l h hs).mono ?_
  rintro _ h1 ⟨B1, B0⟩
  by_cases e0 : mayE (cfgP l) (cfgE l) (cfgC l) = 0
  rotate_left
  · obtain ⟨rfl, R1⟩ := B1 e0
    refine ⟨(none, none), rfl, join_in (join_in (br_b (fun _ => ?_) fun e => by cases e))⟩
    refine br_b (fun _ => br_b (fun _ => br_b (fun _ => ?_) fun e => by cases e) fun e => by cases e) fun e => by cases e
    refine (wakes30_spec h1).mono ?_
    rintro _ h3 ⟨rfl, R3⟩
    exact ⟨true, rfl, rfl, .zip (R1.up R3.pres).pres⟩
  obtain ⟨a, a2, pw, pw2, x, x2, da, da2, rfl, H1⟩ := B0 e0
  refine ⟨(some a, some a2), rfl, join_in (join_in (br_b (fun e => by cases e) fun _ => br_b (fun e => by cases e) fun _ => ?_))⟩
  have hcl := cfgC_len l
  have hcn := cfgN_le l
  have hdl := placesAt_len (cfgC l) (cfgC l).length
  have hlen : (cfgC l).length ≤ 64 := by omega
  have hz : ManSz (bothM l) := newMani_sz _ _ _ hlen
  obtain ⟨_, _, hF⟩ := format_calm hlen e0
  have hmay : mayM (bothM l) = true := mayM_new hlen e0
  have hsp := split_new_len (cfgP l) (cfgE l) (cfgC l) (by omega)
  have h0in : (0 : Int) ∈ (bothM l).drives := (placesAt_mem _ _ _).2 ⟨0, by omega, rfl, by
    rw [List.getD_eq_getElem?_getD, List.getElem?_eq_getElem (by omega)]
    simp [cfgC]; omega⟩
  have hno : ∀ y : Int, 5 ≤ y → y ∉ (bothM l).drives := fun y hy hm => by
    obtain ⟨n, hn, rfl, _⟩ := (placesAt_mem _ _ _).1 hm
    omega
  obtain ⟨d0, hd0, hl0, _⟩ := hF.at_ 0 h0in
  have hds := hF.len
  have hd0' : (bothD l)[0]? = some (some d0) := by
    unfold dAt at hd0
    rw [if_pos (by decide)] at hd0
    cases hX : (bothD l)[0]? with
    | none => rw [show ((0 : Int).toNat) = 0 from rfl, hX] at hd0; cases hd0
    | some o => rw [show ((0 : Int).toNat) = 0 from rfl, hX] at hd0; exact congrArg some hd0
  have hlive : (0 : Int) ∈ liveOf (bothD l) (bothM l).drives := List.mem_filter.2 ⟨h0in, by
    have := isLive_at (n := 0) (by decide) hd0'
    rw [hl0] at this; exact this⟩
  obtain ⟨m, hm⟩ : ∃ m, m = bothM l := ⟨_, rfl⟩
  obtain ⟨D, hD⟩ : ∃ D, D = bothD l := ⟨_, rfl⟩
  rw [← hm] at H1 hz h0in hno hmay hlive
  rw [← hD] at H1 hd0' hlive
  have hsp : (splitM m).length ≤ 1 := by rw [hm]; exact hsp
  have hds : D.length = 64 := by rw [hD]; exact hds
  have hd : downP Pow.new 0 = false := rfl
  refine (within_spec slot 1000 h1 (by decide) (by decide)).mono ?_
  rintro _ _ ⟨rfl, rfl⟩
  refine ⟨_, rfl, (within_spec cells 1000 _ (by decide) (by decide)).mono ?_⟩
  rintro _ h2 ⟨rfl, rfl⟩
  refine ⟨_, rfl, join_in ?_⟩
  obtain ⟨far, hfar, hfb⟩ : ∃ far, far = 64 + slot % 1000 ∧ 64 ≤ far := ⟨_, rfl, by omega⟩
  rw [Go.Vc.wrap_small (64 + slot % 1000) (by omega) (by omega), Go.Vc.wrap_small (513 + cells % 1000) (by omega) (by omega), ← hfar]
  have hr1 : ∀ c, rightB far c = false := fun c => by unfold rightB; rw [decide_eq_false]; omega
  have hr2 : rightB 0 (513 + cells % 1000) = false := by unfold rightB; rw [decide_eq_false]; omega
  refine (addE far 5 1 hz H1 (.inr (.inl (hr1 _))) (by rw [hd, hr1]; rfl)).mono ?_
  rintro _ h3 ⟨rfl, H3⟩
  refine ⟨1, rfl, br_ne (fun e => absurd rfl e) fun _ => ?_⟩
  refine (within_spec slot 9 h3 (by decide) (by decide)).mono ?_
  rintro _ h4 ⟨rfl, rfl⟩
  refine ⟨_, rfl, ?_⟩
  dsimp only
  rw [Go.Vc.wrap_small (-1 - slot % 9) (by omega) (by omega)]
  have hr3 : rightB (-1 - slot % 9) 5 = false := by unfold rightB; rw [decide_eq_false]; omega
  refine (addE (-1 - slot % 9) 5 1 hz H3 (.inr (.inl hr3)) (by rw [hd, hr3]; rfl)).mono ?_
  rintro _ h5 ⟨rfl, H5⟩
  refine ⟨1, rfl, br_ne (fun e => absurd rfl e) fun _ => ?_⟩
  refine (addE 0 (513 + cells % 1000) 1 hz H5 (.inr (.inl hr2)) (by rw [hd, hr2]; rfl)).mono ?_
  rintro _ h6 ⟨rfl, H6⟩
  refine ⟨1, rfl, br_ne (fun e => absurd rfl e) fun _ => ?_⟩
  refine (addE 0 0 1 hz H6 (.inr (.inl (by decide))) (by rw [hd]; rfl)).mono ?_
  rintro _ h7 ⟨rfl, H7⟩
  refine ⟨1, rfl, br_ne (fun e => absurd rfl e) fun _ => ?_⟩
  refine (replE far 9 1 hz H7 (.inr (.inl (hr1 _))) (by rw [hd, hr1]; rfl)).mono ?_
  rintro _ h8 ⟨rfl, H8⟩
  refine ⟨1, rfl, br_ne (fun e => absurd rfl e) fun _ => ?_⟩
  refine (replE 0 (513 + cells % 1000) 1 hz H8 (.inr (.inl hr2)) (by rw [hd, hr2]; rfl)).mono ?_
  rintro _ h9 ⟨rfl, H9⟩
  refine ⟨1, rfl, br_ne (fun e => absurd rfl e) fun _ => join_in ?_⟩
  refine (replE 40 9 5 hz H9 (.inr (.inr (.inl (hno 40 (by decide))))) (by rw [hd, if_neg (by decide), if_neg (by decide), if_pos (hno 40 (by decide))])).mono ?_
  rintro _ h10 ⟨rfl, H10⟩
  refine ⟨5, rfl, br_ne (fun e => absurd rfl e) fun _ => ?_⟩
  refine (replE 0 9 4 hz H10 (.inr (.inr (.inr hlive))) (by rw [hd, if_neg (by decide), if_neg (by decide), if_neg (fun hh => hh h0in)])).mono ?_
  rintro _ h11 ⟨rfl, H11⟩
  refine ⟨4, rfl, br_ne (fun e => absurd rfl e) fun _ => ?_⟩
  refine (retE far 5 hz H11 (.inr (hno far (by omega))) (by rw [hd]; rfl)).mono ?_
  rintro _ h12 ⟨rfl, H12⟩
  refine ⟨5, rfl, br_ne (fun e => absurd rfl e) fun _ => ?_⟩
  refine (retE 40 5 hz H12 (.inr (hno 40 (by decide))) (by rw [hd]; rfl)).mono ?_
  rintro _ h13 ⟨rfl, H13⟩
  refine ⟨5, rfl, br_ne (fun e => absurd rfl e) fun _ => ?_⟩
  refine (loseE far 5 hz H13 (.inr fun hh => hno far (by omega) (live_in hh)) (by rw [hd]; rfl)).mono ?_
  rintro _ h14 ⟨rfl, H14⟩
  refine ⟨5, rfl, br_ne (fun e => absurd rfl e) fun _ => ?_⟩
  have hin : ∀ y ∈ m.drives, 0 ≤ y ∧ y < 64 := fun y hy => by
    rw [hm] at hy
    obtain ⟨n, hn, rfl, _⟩ := (placesAt_mem _ _ _).1 hy
    omega
  refine (same29_spec x x2 m (H14.at 1 rfl) (H14.at 3 rfl) hz hin rfl (H14.selT 3 [0, 2, 1])).mono ?_
  rintro _ h15 ⟨rfl, R15⟩
  have H15 := H14.up R15.pres
  refine ⟨true, rfl, br_not (fun e => by cases e) fun _ => join_in ?_⟩
  refine (loseOk_spec 0 x m (H15.at 1 rfl) hz H15 hd hlive hd0').mono ?_
  rintro _ h16 ⟨rfl, H16⟩
  refine ⟨0, rfl, br_ne (fun e => absurd rfl e) fun _ => ?_⟩
  have hd1 : (D.set 0 (some d0.lose))[0]? = some (some d0.lose) := List.getElem?_set_self (by omega)
  have hnl : (0 : Int) ∉ liveOf (D.set 0 (some d0.lose)) m.drives := fun hh => by
    have h1 := (List.mem_filter.1 hh).2
    have h2 := isLive_at (n := 0) (by decide) hd1
    rw [show ((0 : Nat) : Int) = 0 from rfl, h1] at h2
    cases h2
  refine (loseE 0 5 hz H16 (.inr hnl) (by rw [hd]; rfl)).mono ?_
  rintro _ h17 ⟨rfl, H17⟩
  refine ⟨5, rfl, br_ne (fun e => absurd rfl e) fun _ => ?_⟩
  refine (addE 0 9 4 hz H17 (.inr (.inr h0in)) (by rw [hd]; rfl)).mono ?_
  rintro _ h18 ⟨rfl, H18⟩
  refine ⟨4, rfl, br_ne (fun e => absurd rfl e) fun _ => ?_⟩
  obtain ⟨D1, hD1⟩ : ∃ D1, D1 = D.set 0 (some d0.lose) := ⟨_, rfl⟩
  rw [← hD1] at H18 hnl
  have hD1l : D1.length = 64 := by rw [hD1]; simp [hds]
  refine (replOk_spec 0 (by decide) 9 x m hz H18 hd (by decide) h0in hnl (by omega)).mono ?_
  obtain ⟨g1, g2, d2, g3, g4, g5⟩ := repl_calm (n := 0) (cells := 9) (by decide) hD1l (by omega) hmay
  rintro _ h19 ⟨rfl, b, H19⟩
  have e9 : (Drv.new (9 : Int).toNat) = Drv.new 9 := rfl
  rw [e9] at H19 ⊢
  rw [g1]
  rw [g2] at H19
  obtain ⟨D2, hD2⟩ : ∃ D2, D2 = (layAll (pagesOf m [((0 : Nat) : Int)]) Pow.new (D1.set 0 (some (Drv.new 9)))).2.2 := ⟨_, rfl⟩
  rw [← hD2] at H19 g3
  obtain ⟨da3, hda3⟩ : ∃ da3, da3 = da.set 0 (some b) := ⟨_, rfl⟩
  rw [← hda3] at H19
  refine ⟨0, rfl, br_ne (fun e => absurd rfl e) fun _ => ?_⟩
  obtain ⟨ok, hb⟩ := SpB.coreBox H19
  obtain ⟨b', hb', H20⟩ := Go.Vc.SpB.coreDrive H19 g3
  have hp : dptr da3 0 = some b' := by unfold dptr; rw [if_pos (by decide), show (0 : Int).toNat = 0 from rfl, hb']; rfl
  refine (sdrive_spec 0 ok hb).mono ?_
  rintro _ h20 ⟨rfl, rfl⟩
  rw [hp]
  obtain ⟨okd, sl, bl, H21⟩ := SpB.dOpen H20
  refine ⟨_, rfl, (lost_spec sl bl (H21.box 0 rfl)).mono ?_⟩
  rintro _ h21 ⟨rfl, rfl⟩
  refine ⟨_, rfl, br_b (fun e => by rw [g4] at e; cases e) fun _ => ?_⟩
  refine (sdrive_spec 0 ok hb).mono ?_
  rintro _ h22 ⟨rfl, rfl⟩
  rw [hp]
  refine ⟨_, rfl, (storeMani_spec x m (H19.at 1 rfl) hz H19).mono ?_⟩
  rintro _ h23 ⟨y, rfl, R23⟩
  have H23 := H21.up R23.pres
  refine ⟨y, rfl, (whole_spec b' pw d2 sl bl y m h23 (H23.box 0 rfl) ((H23.selT 2 [1, 0]).wRd fun _ => rfl) okd (R23.at 0 rfl) hz).mono ?_⟩
  rintro _ h24 ⟨rfl, R24⟩
  have H24 := (H19.up R23.pres).up R24.pres
  refine ⟨_, rfl, br_not (fun e => by rw [g5] at e; cases e) fun _ => ?_⟩
  refine (storePow_spec H24).mono ?_
  rintro _ h25 ⟨rfl, rfl⟩
  obtain ⟨okc, H25⟩ := Go.Vc.SpB.coreOpen H24
  refine ⟨_, rfl, (arm_spec 0 (by decide) (H25.selT 2 [1, 0])).mono ?_⟩
  rintro _ h26 ⟨rfl, H26⟩
  have H26 := Go.Vc.SpB.coreClose (k := kitC) okc (H26.selT 2 [1, 0])
  refine ⟨(), rfl, (storePow_spec H26).mono ?_⟩
  rintro _ h27 ⟨rfl, rfl⟩
  obtain ⟨_, H27⟩ := Go.Vc.SpB.coreOpen H26
  refine ⟨_, rfl, (step_spec (H27.selT 2 [1, 0])).mono ?_⟩
  rintro _ h28 ⟨rfl, H28⟩
  have H28 := Go.Vc.SpB.coreClose (k := kitC) okc (H28.selT 2 [1, 0])
  refine ⟨_, rfl, ?_⟩
  have hdn : downP (Pow.new.arm 0).step.2 0 = true := rfl
  obtain ⟨W, hW⟩ : ∃ W, W = (Pow.new.arm 0).step.2 := ⟨_, rfl⟩
  rw [← hW] at hdn H28
  refine loop_inv (fun t : Nat => ((if t = 0 then some a else none), (t : Int))) (fun t h' => t ≤ 2 ∧ Sp h h' (CoreA kitC a pw (manL x) 0 da3 W D2 :: ManA x m :: [CoreA kitR a2 pw2 (manL x2) 0 da2 Pow.new D, ManA x2 m])) (fun t => 2 - t) 0 (by rw [if_pos rfl]; rfl) ⟨by omega, H28⟩ ?_
  rintro t h29 ⟨ht, H29⟩
  dsimp only
  have ho : (if t = 0 then some a else none) = some a ∨ (if t = 0 then some a else none) = none := by split; exact .inl rfl; exact .inr rfl
  refine br_dec (fun e => ?_) fun e => ?_
  · refine (addD _ ho far cells hz hdn H29).mono ?_
    rintro _ h30 ⟨rfl, H30⟩
    refine ⟨14, rfl, br_ne (fun e => absurd rfl e) fun _ => (retD _ ho far hz hdn H30).mono ?_⟩
    rintro _ h31 ⟨rfl, H31⟩
    refine ⟨14, rfl, br_ne (fun e => absurd rfl e) fun _ => (replD _ ho far cells hz hdn H31).mono ?_⟩
    rintro _ h32 ⟨rfl, H32⟩
    refine ⟨14, rfl, br_ne (fun e => absurd rfl e) fun _ => (loseD _ ho far hz hdn H32).mono ?_⟩
    rintro _ h33 ⟨rfl, H33⟩
    refine ⟨14, rfl, br_ne (fun e => absurd rfl e) fun _ => ⟨t + 1, ?_, ⟨by omega, H33⟩, by omega⟩⟩
    rw [Go.Vc.wrap_small _ (by omega) (by omega), if_neg (Nat.succ_ne_zero t)]; rfl
  · refine (wakes30_spec h29).mono ?_
    rintro _ h34 ⟨rfl, R34⟩
    exact ⟨true, rfl, rfl, .zip (H29.up R34.pres).pres⟩
theorem law_fleetErrors_spec (s : Sl) (l : List Int) (slot cells : Int) (h : Heap) (hs : Rd h s 1 intv l) :
    Meets Tryz.prog wellspringlaw30_FleetErrors_id #[.slice s.ptr s.len s.cap, .int .i64 slot, .int .i64 cells] h fun v h' => v = .bool true ∧ Pres (fun b => b < h.size) h h' :=
  (fleetErrors_spec s l slot cells h hs).mono fun _ _ ⟨a, b⟩ => ⟨a, b.pres⟩
end
end Go.Proofs.YtmaknfkhibljfaaGreat
