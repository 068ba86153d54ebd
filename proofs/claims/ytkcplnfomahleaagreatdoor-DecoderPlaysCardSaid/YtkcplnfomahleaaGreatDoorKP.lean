/- Part of the proofs that wellspringlaw14's laws answer true whatever the input reads, and leave it as it was; no condition. -/
import Derived.Test.YtkcplnfomahleaaGreatDoorTabS
import Derived.Test.YtkcplnfomahleaaGreatDoorHpA
import Derived.Test.YtkcplnfomahleaaGreatDoorPlC
set_option linter.unusedVariables false
set_option linter.unusedSimpArgs false
namespace Go.Proofs.YtkcplnfomahleaaGreatDoor
open Go Go.Vc Go.Proofs
set_option maxRecDepth 100000
def risesB : List Int → Bool
  | [] => true
  | [_] => true
  | a :: b :: r => decide (a < b) && risesB (b :: r)
theorem rises_snoc : ∀ (l : List Int) (a b : Int), risesB (l ++ [a, b]) = (risesB (l ++ [a]) && decide (a < b))
  | [], a, b => by simp [risesB]
  | [c], a, b => by simp [risesB]
  | c :: d :: r, a, b => by
    have := rises_snoc (d :: r) a b
    simp only [List.cons_append] at this ⊢
    simp only [risesB, this, Bool.and_assoc]
theorem rises_app {l r : List Int} (h : risesB l = false) : risesB (l ++ r) = false := by
  induction l with
  | nil => simp [risesB] at h
  | cons a t ih =>
    cases t with
    | nil => simp [risesB] at h
    | cons b t =>
      simp only [risesB, Bool.and_eq_false_iff] at h
      simp only [List.cons_append, risesB, Bool.and_eq_false_iff]
      rcases h with h | h
      · exact .inl h
      · exact .inr (ih h)
theorem take_two (l : List Int) (k : Nat) (h : k + 1 < l.length) : l.take (k + 2) = l.take k ++ [l[k], l[k + 1]] := by
  have e1 : l.take (k + 2) = l.take (k + 1) ++ [l[k + 1]] := take_snoc l (k + 1) h
  have e2 := take_snoc l k (by omega)
  rw [e1, e2, List.append_assoc]; rfl
def rowOk (n : Int) (r : List Int) : Bool := r.all (fun c => decide (0 ≤ c ∧ c < n)) && risesB r
theorem rowOk_app {n : Int} {l r : List Int} (h : rowOk n l = false) : rowOk n (l ++ r) = false := by
  simp only [rowOk, Bool.and_eq_false_iff] at *
  rcases h with h | h
  · left; rw [List.all_append, h]; rfl
  · right; exact rises_app h
theorem rowOk_zero {n : Int} {r : List Int} (h : 0 < r.length) : rowOk n (r.take 1) = decide (0 ≤ r[0] ∧ r[0] < n) := by
  cases r with
  | nil => simp at h
  | cons a t => simp [rowOk, risesB]
theorem rowOk_step {n : Int} {r : List Int} {k : Nat} (h : k + 1 < r.length) : rowOk n (r.take (k + 2)) = (rowOk n (r.take (k + 1)) && decide (0 ≤ r[k + 1] ∧ r[k + 1] < n) && decide (r[k] < r[k + 1])) := by
  have e1 : r.take (k + 2) = r.take (k + 1) ++ [r[k + 1]] := take_snoc r (k + 1) h
  have e2 : risesB (r.take (k + 2)) = (risesB (r.take (k + 1)) && decide (r[k] < r[k + 1])) := by
    rw [take_two r k h, rises_snoc, take_snoc r k (by omega)]
  simp only [rowOk, e2]
  rw [e1, List.all_append]
  simp only [List.all_cons, List.all_nil, Bool.and_true]
  cases (r.take (k + 1)).all fun c => decide (0 ≤ c ∧ c < n) <;> cases risesB (r.take (k + 1)) <;> cases decide (0 ≤ r[k + 1] ∧ r[k + 1] < n) <;> simp
theorem rowOk_no {n : Int} {r : List Int} {k : Nat} (h : rowOk n (r.take k) = false) : rowOk n r = false := by
  rw [← List.take_append_drop k r]; exact rowOk_app h
theorem rowOk_next {n : Int} {r : List Int} {k : Nat} (hk : k < r.length) (h : rowOk n (r.take k) = true) :
    (r[k] < 0 → rowOk n r = false) ∧ (n ≤ r[k] → rowOk n r = false) ∧ (∀ (h0 : 0 < k), r[k] ≤ r[k - 1] → rowOk n r = false) ∧
    (0 ≤ r[k] → r[k] < n → (∀ h0 : 0 < k, r[k - 1] < r[k]) → rowOk n (r.take (k + 1)) = true) := by
  cases k with
  | zero =>
    have e := rowOk_zero (n := n) hk
    refine ⟨fun h1 => rowOk_no (k := 1) ?_, fun h1 => rowOk_no (k := 1) ?_, fun h0 => by omega, fun h1 h2 _ => ?_⟩
    · rw [e, decide_eq_false (by omega)]
    · rw [e, decide_eq_false (by omega)]
    · rw [e, decide_eq_true ⟨h1, h2⟩]
  | succ k =>
    have e := rowOk_step (n := n) hk
    refine ⟨fun h1 => rowOk_no (k := k + 2) ?_, fun h1 => rowOk_no (k := k + 2) ?_, fun h0 h1 => rowOk_no (k := k + 2) ?_, fun h1 h2 h3 => ?_⟩
    · rw [e, decide_eq_false (p := 0 ≤ r[k + 1] ∧ r[k + 1] < n) (by omega)]; simp
    · rw [e, decide_eq_false (p := 0 ≤ r[k + 1] ∧ r[k + 1] < n) (by omega)]; simp
    · rw [e, decide_eq_false (p := r[k] < r[k + 1]) (by simpa using h1)]; simp
    · have h4 : r[k] < r[k + 1] := by simpa using h3 (by omega)
      rw [e, h, decide_eq_true (p := 0 ≤ r[k + 1] ∧ r[k + 1] < n) ⟨h1, h2⟩, decide_eq_true h4]; rfl
def rightB (n : Int) (ll : List (List Int)) : Bool := decide (0 ≤ n ∧ n ≤ 64) && ll.all (rowOk n)
theorem all_take {α : Type} {f : α → Bool} {l : List α} {k : Nat} (hk : k < l.length) (h : (l.take k).all f = true) : (l.take (k + 1)).all f = f l[k] := by
  rw [take_snoc _ _ hk, List.all_append, h]; simp
theorem all_no {α : Type} {f : α → Bool} {l : List α} {k : Nat} (hk : k < l.length) (h : f l[k] = false) : l.all f = false := by
  rw [List.all_eq_false]
  exact ⟨l[k], List.getElem_mem hk, by simp [h]⟩
theorem planRight_spec {p : Blocks} (n : Int) (a : Sl) (ll : List (List Int)) (rs : List Sl) (h : Heap) (ha : Seq2 h p a 1 intv ll rs) (hs : ll.length ≤ 2 ^ 40) (hss : ∀ l ∈ ll, l.length ≤ 2 ^ 40) :
    Meets Tryz.prog inact_right_id #[.int .i64 n, .slice a.ptr a.len a.cap] h fun v h' => v = .bool (rightB n ll) ∧ h' = h := by
  refine inact_right_run n a ?_
  unfold inact_right_m
  have hal := ha.slen
  refine join_cut (fun _ h' => h' = h ∧ 0 ≤ n ∧ n ≤ 64) ?_ ?_
  · refine br_dec (fun h1 => ⟨?_, rfl⟩) (fun h1 => br_dec (fun h2 => ⟨?_, rfl⟩) (fun h2 => ⟨rfl, by omega, by omega⟩))
    · rw [rightB, decide_eq_false (by omega)]; rfl
    · rw [rightB, decide_eq_false (by omega)]; rfl
  · rintro _ h' ⟨rfl, hn0, hn1⟩
    have hR : rightB n ll = ll.all (rowOk n) := by rw [rightB, decide_eq_true ⟨hn0, hn1⟩]; rfl
    refine loop_inv (fun k : Nat => (k : Int)) (fun k h0 => h0 = h' ∧ k ≤ ll.length ∧ (ll.take k).all (rowOk n) = true) (fun k => ll.length - k) 0 rfl ⟨rfl, by omega, by simp⟩ ?_
    rintro i h0 ⟨rfl, hi, hall⟩
    refine br_dec (fun hlt => ?_) (fun hge => ?_)
    · have hi' : i < ll.length := by omega
      refine ha.get i rfl hi' fun r hr _ => ?_
      have hrl := hr.len
      have hsm := hss _ (List.getElem_mem hi')
      have hbad : rowOk n ll[i] = false → rightB n ll = false := fun hb => by rw [hR]; exact all_no hi' hb
      refine loop_inv (fun k : Nat => (k : Int)) (fun k h2 => h2 = h0 ∧ k ≤ ll[i].length ∧ rowOk n (ll[i].take k) = true) (fun k => ll[i].length - k) 0 rfl ⟨rfl, by omega, by simp [rowOk, risesB]⟩ ?_
      rintro k h2 ⟨rfl, hk, ht⟩
      refine br_dec (fun hlt => ?_) (fun hge => ?_)
      · have hk' : k < ll[i].length := by omega
        obtain ⟨n1, n2, n3, n4⟩ := rowOk_next hk' ht
        refine hr.get1 k rfl hk' _ rfl ?_
        refine br_dec (fun h1 => ⟨by rw [hbad (n1 h1)], rfl⟩) (fun h1 => ?_)
        refine br_dec (fun h2 => ⟨by rw [hbad (n2 h2)], rfl⟩) (fun h2 => ?_)
        rw [Go.Vc.wrap_small (k + 1) (by omega) (by omega), Go.Vc.wrap_small (k - 1) (by omega) (by omega)]
        refine br_dec (fun h3 => ?_) (fun h3 => ?_)
        · refine hr.get1 (k - 1) (by omega) (by omega) _ rfl ?_
          refine br_dec (fun h4 => ⟨by rw [hbad (n3 (by omega) h4)], rfl⟩) (fun h4 => ?_)
          exact ⟨k + 1, by simp, ⟨rfl, by omega, n4 (by omega) (by omega) (fun _ => by omega)⟩, by omega⟩
        · exact ⟨k + 1, by simp, ⟨rfl, by omega, n4 (by omega) (by omega) (fun _ => by omega)⟩, by omega⟩
      · rw [List.take_of_length_le (by omega)] at ht
        rw [Go.Vc.wrap_small (i + 1) (by omega) (by omega)]
        exact ⟨i + 1, by simp, ⟨rfl, by omega, by rw [all_take hi' hall, ht]⟩, by omega⟩
    · rw [List.take_of_length_le (by omega)] at hall
      exact ⟨by rw [hR, hall], rfl⟩
theorem index_bool_spec {p : Blocks} (a : Sl) (la : List Bool) (x : Bool) (h : Heap) (ha : Seq h p a 1 boolv la) (hs : la.length ≤ 2 ^ 40) :
    Meets Tryz.prog slices_Index_bool_bool_id #[.slice a.ptr a.len a.cap, .bool x] h fun v h' => ∃ r : Int, v = .int .i64 r ∧ (0 ≤ r ↔ x ∈ la) ∧ h' = h := by
  refine slices_Index_bool_bool_run a x ?_
  unfold slices_Index_bool_bool_m
  have hal := ha.len
  refine loop_inv (fun k : Nat => (k : Int)) (fun k h' => h' = h ∧ k ≤ la.length ∧ x ∉ la.take k) (fun k => la.length - k) 0 rfl ⟨rfl, by omega, by simp⟩ ?_
  rintro k h' ⟨rfl, hk, ht⟩
  refine br_dec (fun hlt => ?_) (fun hge => ?_)
  · have hk' : k < la.length := by omega
    refine ha.get1 k rfl hk' _ rfl ?_
    refine br_b (fun heq => ⟨_, rfl, ⟨fun _ => ?_, fun _ => by omega⟩, rfl⟩) (fun hne => ?_)
    · rw [eq_of_beq heq]; exact List.getElem_mem hk'
    · rw [Go.Vc.wrap_small _ (by omega) (by omega)]
      refine ⟨k + 1, by simp, ⟨rfl, by omega, ?_⟩, by omega⟩
      rw [take_snoc _ _ hk']
      simp only [List.mem_append, List.mem_singleton, not_or]
      exact ⟨ht, fun e => by rw [e] at hne; simp at hne⟩
  · rw [List.take_of_length_le (by omega)] at ht
    exact ⟨_, rfl, ⟨fun h => by omega, fun h => absurd h ht⟩, rfl⟩
theorem contains_bool_spec {p : Blocks} (a : Sl) (la : List Bool) (x : Bool) (h : Heap) (ha : Seq h p a 1 boolv la) (hs : la.length ≤ 2 ^ 40) :
    Meets Tryz.prog slices_Contains_bool_bool_id #[.slice a.ptr a.len a.cap, .bool x] h fun v h' => v = .bool (decide (x ∈ la)) ∧ h' = h := by
  refine slices_Contains_bool_bool_run a x ?_
  unfold slices_Contains_bool_bool_m
  refine (index_bool_spec a la x h ha hs).mono ?_
  rintro v h' ⟨r, rfl, hr, rfl⟩
  refine ⟨r, rfl, ?_, rfl⟩
  exact congrArg Value.bool (decide_eq_decide.2 hr)
open Wl
theorem filter_snoc {α : Type} {f : α → Bool} {l : List α} {k : Nat} (hk : k < l.length) : (l.take (k + 1)).filter f = if f l[k] then (l.take k).filter f ++ [l[k]] else (l.take k).filter f := by
  rw [take_snoc _ _ hk, List.filter_append]
  by_cases h : f l[k] = true <;> simp [h]
theorem planSingle_spec {p q : Blocks} (pa : Addr) (o r : Sl) (op : List Bool) (row : List Int) (h : Heap) (hp : cellOf h (pa.add 1) = some (.slice o.ptr o.len o.cap)) (ho : Seq h p o 1 boolv op) (hr : Seq h q r 1 intv row)
    (hin : ∀ c ∈ row, 0 ≤ c ∧ c < op.length) (hs : row.length ≤ 2 ^ 40) :
    Meets Tryz.prog inact_planner_single_id #[.pointer (some pa), .slice r.ptr r.len r.cap] h fun v h' =>
      v = .tuple #[.int .i64 ((openCols op row).getLast?.getD 0), .bool ((openCols op row).length == 1)] ∧ h' = h := by
  refine inact_planner_single_run (some pa) r ?_
  unfold inact_planner_single_m
  have hrl := hr.len
  refine loop_inv (fun k : Nat => ((openCols op (row.take k)).getLast?.getD 0, ((openCols op (row.take k)).length : Int), (k : Int))) (fun k h' => h' = h ∧ k ≤ row.length) (fun k => row.length - k) 0 rfl ⟨rfl, by omega⟩ ?_
  rintro k h' ⟨rfl, hk⟩
  dsimp only
  refine br_dec (fun hlt => ?_) (fun hge => ?_)
  · have hk' : k < row.length := by omega
    have hc := hin _ (List.getElem_mem hk')
    refine hr.get1 k rfl hk' _ rfl ?_
    refine ⟨pa, rfl, o, hp, ?_⟩
    have hlt2 : row[k].toNat < op.length := by omega
    refine ho.get1 row[k].toNat (by omega) hlt2 _ rfl ?_
    have hopn : opn op row[k] = op[row[k].toNat] := by simp [opn, List.getD_eq_getElem?_getD, List.getElem?_eq_getElem hlt2]
    have hsn := filter_snoc (f := opn op) hk'
    have hcl : (openCols op (row.take k)).length ≤ row.length := Nat.le_trans (List.length_filter_le _ _) (by rw [List.length_take]; omega)
    rw [Go.Vc.wrap_small (k + 1) (by omega) (by omega), Go.Vc.wrap_small _ (by omega) (by omega)]
    refine br_b (fun hb => ?_) (fun hb => ?_)
    · refine ⟨k + 1, ?_, ⟨rfl, by omega⟩, by omega⟩
      have e : openCols op (row.take (k + 1)) = openCols op (row.take k) ++ [row[k]] := by rw [openCols, hsn, hopn, hb]; rfl
      simp [e]
    · refine ⟨k + 1, ?_, ⟨rfl, by omega⟩, by omega⟩
      have e : openCols op (row.take (k + 1)) = openCols op (row.take k) := by rw [openCols, hsn, hopn, hb]; rfl
      simp [e]
  · have e : row.take k = row := List.take_of_length_le (by omega)
    refine ⟨?_, rfl⟩
    simp only [e]
    congr 4
    congr 1
    rw [Bool.eq_iff_iff]; simp; omega
structure PlanR (h : Heap) (p : Blocks) (a : Addr) (l o u : Sl) (rows : List (List Int)) (rs : List Sl) (op us : List Bool) : Prop where
  c0 : cellOf h a = some (.slice l.ptr l.len l.cap)
  c1 : cellOf h (a.add 1) = some (.slice o.ptr o.len o.cap)
  c2 : cellOf h (a.add 2) = some (.slice u.ptr u.len u.cap)
  blk : p a.block
  sRows : Seq2 h p l 1 intv rows rs
  sOp : Seq h p o 1 boolv op
  sUs : Seq h p u 1 boolv us
  ulen : us.length = rows.length
  cols : ∀ r ∈ rows, ∀ c ∈ r, 0 ≤ c ∧ c < op.length
  short : ∀ r ∈ rows, r.length ≤ 64
theorem PlanR.pres {h h' : Heap} {p : Blocks} {a : Addr} {l o u : Sl} {rows : List (List Int)} {rs : List Sl} {op us : List Bool} (hp : PlanR h p a l o u rows rs op us) (k : Pres p h h') : PlanR h' p a l o u rows rs op us := by
  have add_blk : ∀ n, (a.add n).block = a.block := fun n => by unfold Addr.add; split <;> rfl
  exact ⟨k.cell hp.blk hp.c0, k.cell (by rw [add_blk]; exact hp.blk) hp.c1, k.cell (by rw [add_blk]; exact hp.blk) hp.c2, hp.blk, hp.sRows.pres k, hp.sOp.pres k, hp.sUs.pres k, hp.ulen, hp.cols, hp.short⟩
theorem planStep_spec {p : Blocks} (a : Addr) (l o u : Sl) (rows : List (List Int)) (rs : List Sl) (op us : List Bool) (h : Heap) (hp : PlanR h p a l o u rows rs op us) (hs : rows.length ≤ 2 ^ 40) :
    Meets Tryz.prog inact_planner_step_id #[.pointer (some a)] h fun v h' => Pres (fun _ => True) h h' ∧
      v = match stepL rows op us with
        | some i => .tuple #[.agg #[.int .i64 i, .int .i64 (colOf rows op i)], .bool true]
        | none => .tuple #[.agg #[.int .i64 0, .int .i64 0], .bool false] := by
  refine inact_planner_step_run (some a) ?_
  unfold inact_planner_step_m
  refine run_alloc C_ok rfl fun b h1 hb hbox hpres hsz => ?_
  have hp1 := hp.pres (hpres.mono fun _ _ _ => trivial)
  refine ⟨a, rfl, l, hp1.c0, ?_⟩
  have hll := hp.sRows.slen
  refine loop_inv (fun k : Nat => (k : Int)) (fun k h' => h' = h1 ∧ k ≤ rows.length ∧ ∀ j, j < k → tells rows op us j = false) (fun k => rows.length - k) 0 rfl ⟨rfl, by omega, fun j hj => by omega⟩ ?_
  rintro k h' ⟨rfl, hk, ht⟩
  refine br_dec (fun hlt => ?_) (fun hge => ?_)
  · have hk' : k < rows.length := by omega
    refine hp1.sRows.get k rfl hk' fun r hr _ => ?_
    refine ⟨a, rfl, u, hp1.c2, ?_⟩
    refine hp1.sUs.get1 k rfl (by rw [hp.ulen]; exact hk') _ rfl ?_
    have hu : us.getD k false = us[k]'(by rw [hp.ulen]; exact hk') := by rw [List.getD_eq_getElem?_getD, List.getElem?_eq_getElem]; rfl
    have hrow : rows.getD k [] = rows[k] := by rw [List.getD_eq_getElem?_getD, List.getElem?_eq_getElem hk']; rfl
    rw [Go.Vc.wrap_small _ (by omega) (by omega)]
    refine br_b (fun hb1 => ?_) (fun hb1 => ?_)
    · refine ⟨k + 1, by simp, ⟨rfl, by omega, fun j hj => ?_⟩, by omega⟩
      rcases Nat.lt_succ_iff_lt_or_eq.1 hj with hj | rfl
      · exact ht j hj
      · simp only [tells, hu, hb1]; rfl
    · refine (planSingle_spec a o r op rows[k] h' hp1.c1 hp1.sOp hr (hp.cols _ (List.getElem_mem hk')) (Nat.le_trans (hp.short _ (List.getElem_mem hk')) (by omega))).mono ?_
      rintro v h2 ⟨rfl, rfl⟩
      refine ⟨(_, _), rfl, ?_⟩
      have htell : tells rows op us k = ((openCols op rows[k]).length == 1) := by simp only [tells, hu, hb1, hrow]; rfl
      refine br_b (fun hb2 => ?_) (fun hb2 => ?_)
      · have hb2' : tells rows op us k = true := htell.trans hb2
        refine run_store0 C_ok hbox rfl _ rfl rfl rfl (Nat.le_refl _) fun h3 hbox3 hp3 hsz3 => ?_
        refine ⟨(_, _), hbox3.cells0 _ rfl, hpres.then hp3 (fun b' hb' _ => by omega), ?_⟩
        have hcol : colOf rows op k = (openCols op rows[k]).getLast?.getD 0 := by unfold colOf; rw [hrow]
        rw [stepL, find_some hk' ht hb2']
        show _ = Value.tuple #[.agg #[.int .i64 k, .int .i64 (colOf rows op k)], .bool true]
        rw [hcol]; rfl
      · have hb2' : tells rows op us k = false := htell.trans hb2
        refine ⟨k + 1, by simp, ⟨rfl, by omega, fun j hj => ?_⟩, by omega⟩
        rcases Nat.lt_succ_iff_lt_or_eq.1 hj with hj | rfl
        · exact ht j hj
        · exact hb2'
  · refine run_store0 C_ok hbox rfl _ rfl rfl rfl (Nat.le_refl _) fun h3 hbox3 hp3 hsz3 => ?_
    refine ⟨(_, _), hbox3.cells0 _ rfl, hpres.then hp3 (fun b' hb' _ => by omega), ?_⟩
    rw [stepL, find_none (fun j hj => ht j (by omega))]
theorem getDb_lt {l : List Bool} {i : Nat} (h : i < l.length) : l.getD i false = l[i] := by rw [List.getD_eq_getElem?_getD, List.getElem?_eq_getElem h]; rfl
theorem best_lt (op : List Bool) (cs : List Int) : ∀ k, -1 ≤ bestL op cs k ∧ bestL op cs k < k
  | 0 => by simp [bestL]
  | k + 1 => by
    have := best_lt op cs k
    unfold bestL
    split <;> omega
set_option maxHeartbeats 4000000 in
theorem planMost_spec {p : Blocks} (a : Addr) (l o u : Sl) (rows : List (List Int)) (rs : List Sl) (op us : List Bool) (h : Heap) (hp : PlanR h p a l o u rows rs op us) (hs : rows.length ≤ 2 ^ 30) (hos : op.length ≤ 2 ^ 30) :
    Meets Tryz.prog inact_planner_most_id #[.pointer (some a)] h fun v h' => Pres (fun _ => True) h h' ∧ v = .int .i64 (mostL rows op us) := by
  refine inact_planner_most_run (some a) ?_
  unfold inact_planner_most_m
  refine ⟨a, rfl, o, hp.c1, ?_⟩
  have hol := hp.sOp.len
  refine run_make (f := intv) C_ok ⟨_, _, rfl, rfl, rfl, rfl, rfl, rfl⟩ (by decide) 0 rfl rfl op.length op.length (by omega) (by omega) (Nat.le_refl _) (by omega) fun s h1 hown hsp hsc hpres hsz => ?_
  have hp1 := hp.pres (hpres.mono fun _ _ _ => trivial)
  refine ⟨a, rfl, l, hp1.c0, ?_⟩
  have hll := hp.sRows.slen
  have hfresh : ∀ b, s.on b → b = h.size := by rintro b ⟨o', ho'⟩; rw [hsp] at ho'; cases ho'; rfl
  have hgl : ∀ k, ((fun _ r => r : Nat → List Int → List Int) k (rows.getD k [])).length ≤ 64 := fun k => by
    show (rows.getD k []).length ≤ 64
    by_cases hk : k < rows.length
    · rw [List.getD_eq_getElem?_getD, List.getElem?_eq_getElem hk]; exact hp.short _ (List.getElem_mem hk)
    · rw [List.getD_eq_getElem?_getD, List.getElem?_eq_none (by omega)]; simp
  let cn := cntRows (fun _ r => r) rows us (List.replicate op.length 0)
  have hcl : ∀ k, (cn k).length = op.length := fun k => by rw [cnt_length]; simp
  have hcn : ∀ k, ∀ x ∈ cn k, 0 ≤ x ∧ x ≤ 64 * k := fun k x hx => cnt_le (fun _ r => r) hgl k x hx
  refine loop_inv (fun k : Nat => (k : Int)) (fun k h' => Pres (fun b => b < h.size) h h' ∧ k ≤ rows.length ∧ Own h' T_int s 1 intv (cn k)) (fun k => rows.length - k) 0 rfl ⟨hpres.mono fun _ _ _ => trivial, by omega, hown⟩ ?_
  rintro i h2 ⟨hp2, hi, hown2⟩
  have hpl2 : PlanR h2 p a l o u rows rs op us := hp.pres (hp2.mono fun b hb _ => hb)
  refine br_dec (fun hlt => ?_) (fun hge => ?_)
  · have hi' : i < rows.length := by omega
    have hrow : rows.getD i [] = rows[i] := by rw [List.getD_eq_getElem?_getD, List.getElem?_eq_getElem hi']; rfl
    have hu : us.getD i false = us[i]'(by rw [hp.ulen]; exact hi') := getDb_lt _
    refine hpl2.sRows.get i rfl hi' fun r hr hri => ?_
    have hrl := hr.len
    have hshort := hp.short _ (List.getElem_mem hi')
    refine loop_inv (fun k : Nat => (k : Int)) (fun k h' => Pres (fun b => b < h.size) h h' ∧ k ≤ rows[i].length ∧ Own h' T_int s 1 intv (if us.getD i false then cn i else addRow (cn i) (rows[i].take k))) (fun k => rows[i].length - k) 0 rfl
      ⟨hp2, by omega, by simpa [addRow] using hown2⟩ ?_
    rintro j h3 ⟨hp3, hj, hown3⟩
    have hpl3 : PlanR h3 p a l o u rows rs op us := hp.pres (hp3.mono fun b hb _ => hb)
    refine br_dec (fun hlt => ?_) (fun hge => ?_)
    · have hj' : j < rows[i].length := by omega
      have hr3 := hpl3.sRows.row i r _ hri (List.getElem?_eq_getElem hi')
      have hc := hp.cols _ (List.getElem_mem hi') _ (List.getElem_mem hj')
      refine hr3.get1 j rfl hj' _ rfl ?_
      refine ⟨a, rfl, u, hpl3.c2, ?_⟩
      refine hpl3.sUs.get1 i rfl (by rw [hp.ulen]; exact hi') _ rfl ?_
      rw [Go.Vc.wrap_small (j + 1) (by omega) (by omega)]
      refine br_not (fun hb => ?_) (fun hb => ?_)
      · rw [hu, hb] at hown3
        simp only [Bool.false_eq_true, if_false] at hown3
        have hlen : (addRow (cn i) (rows[i].take j)).length = op.length := by rw [addRow_length, hcl]
        have hlt2 : rows[i][j].toNat < (addRow (cn i) (rows[i].take j)).length := by rw [hlen]; omega
        have hbd := addRow_le (r := rows[i].take j) (hcn i) _ (List.getElem_mem hlt2)
        have hjl : (rows[i].take j).length ≤ 64 := by rw [List.length_take]; omega
        have hs3 : Seq h3 (fun _ => True) s 1 intv (addRow (cn i) (rows[i].take j)) := hown3.seq (fun _ => rfl) (fun _ _ => trivial)
        refine hs3.get1 rows[i][j].toNat (by omega) hlt2 _ rfl ?_
        rw [Go.Vc.wrap_small _ (by omega) (by omega)]
        refine hown3.set C_ok (fun _ => rfl) rfl rows[i][j].toNat (by omega) hlt2 _ rfl rfl rfl fun h4 hown4 hp4 hsz4 => ?_
        refine ⟨j + 1, by simp, ⟨hp3.then hp4 (fun b hb _ => fun hon => by have := hfresh b hon; omega), by omega, ?_⟩, by omega⟩
        rw [hu, hb]
        simp only [Bool.false_eq_true, if_false]
        rw [take_snoc _ _ hj', addRow_snoc, getD_lt hlt2]
        exact hown4
      · refine ⟨j + 1, by simp, ⟨hp3, by omega, ?_⟩, by omega⟩
        rw [hu, hb] at hown3 ⊢
        exact hown3
    · rw [Go.Vc.wrap_small (i + 1) (by omega) (by omega)]
      rw [List.take_of_length_le (by omega)] at hown3
      refine ⟨i + 1, by simp, ⟨hp3, by omega, ?_⟩, by omega⟩
      have : cn (i + 1) = if us.getD i false then cn i else addRow (cn i) rows[i] := by
        show cntRows _ _ _ _ (i + 1) = _
        rw [cntRows]
        simp only [hrow]
        rfl
      rw [this]; exact hown3
  · have hie : i = rows.length := by omega
    subst hie
    refine ⟨a, rfl, o, hpl2.c1, ?_⟩
    have hs2 : Seq h2 (fun _ => True) s 1 intv (cn rows.length) := hown2.seq (fun _ => rfl) (fun _ _ => trivial)
    have hcl2 := hcl rows.length
    refine loop_inv (fun k : Nat => (bestL op (cn rows.length) k, (k : Int))) (fun k h' => h' = h2 ∧ k ≤ op.length) (fun k => op.length - k) 0 rfl ⟨rfl, by omega⟩ ?_
    rintro k h3 ⟨rfl, hk⟩
    dsimp only
    have hbl := best_lt op (cn rows.length) k
    refine br_dec (fun hlt => ?_) (fun hge => ?_)
    · have hk' : k < op.length := by omega
      refine hpl2.sOp.get1 k rfl hk' _ rfl ?_
      rw [Go.Vc.wrap_small (k + 1) (by omega) (by omega)]
      have hok : op.getD k false = op[k] := getDb_lt hk'
      refine br_b (fun hb => ?_) (fun hb => ?_)
      · refine br_dec (fun hneg => ?_) (fun hnn => ?_)
        · refine ⟨k + 1, ?_, ⟨rfl, by omega⟩, by omega⟩
          rw [bestL, if_pos (by rw [hok, hb, decide_eq_true hneg]; rfl)]; rfl
        · refine hs2.get1 k rfl (by omega) _ rfl ?_
          refine hs2.get1 (bestL op (cn rows.length) k).toNat (by omega) (by omega) _ rfl ?_
          have e1 : (cn rows.length).getD k 0 = (cn rows.length)[k] := getD_lt (by omega)
          have e2 : (cn rows.length).getD (bestL op (cn rows.length) k).toNat 0 = (cn rows.length)[(bestL op (cn rows.length) k).toNat] := getD_lt (by omega)
          refine br_dec (fun hgt => ?_) (fun hle => ?_)
          · refine ⟨k + 1, ?_, ⟨rfl, by omega⟩, by omega⟩
            rw [bestL, if_pos (by rw [hok, hb, e1, e2, decide_eq_true hgt]; simp)]; rfl
          · refine ⟨k + 1, ?_, ⟨rfl, by omega⟩, by omega⟩
            rw [bestL, if_neg (by rw [hok, hb, e1, e2, decide_eq_false hle, decide_eq_false hnn]; simp)]; rfl
      · refine ⟨k + 1, ?_, ⟨rfl, by omega⟩, by omega⟩
        rw [bestL, if_neg (by rw [hok, hb]; simp)]; rfl
    · have hke : k = op.length := by omega
      subst hke
      exact ⟨hp2.mono fun b hb _ => hb, rfl⟩
def stepv (p : Int × Int) : List Value := [.int .i64 p.1, .int .i64 p.2]
theorem one_step : ∀ x, ∀ c ∈ stepv x, c.oneCell' = true := by
  intro x c hc; simp only [stepv, List.mem_cons, List.not_mem_nil, or_false] at hc
  rcases hc with rfl | rfl <;> rfl
def plOut (n : Int) (rows : List (List Int)) : List (Int × Int) × List Int × List Int :=
  if rightB n rows then ((planL n.toNat rows).steps, (planL n.toNat rows).dead, leftL (planL n.toNat rows).used rows.length) else ([], [], [])
def PlanIs (h0 h : Heap) (v : Value) (ok : Bool) (st : List (Int × Int)) (dd lf : List Int) : Prop :=
  ∃ s d f : Sl, v = .tuple #[.agg #[.slice s.ptr s.len s.cap, .slice d.ptr d.len d.cap, .slice f.ptr f.len f.cap], .bool ok] ∧
    Sp h0 h [OwnA T_api_Step s 2 stepv st, OwnA T_int d 1 intv dd, OwnA T_int f 1 intv lf]
theorem sp_cols {α β γ : Type} {h0 h : Heap} {c : Nat → Nat} {e1 e2 e3 k1 k2 k3 : Nat} {f1 : α → List Value} {f2 : β → List Value} {f3 : γ → List Value} {s1 s2 s3 : Sl} {l1 : List α} {l2 : List β} {l3 : List γ} (hb : Base h0 h c) (a1 : OwnC h c 6 e1 s1 k1 f1 l1) (a2 : OwnC h c 7 e2 s2 k2 f2 l2) (a3 : OwnC h c 8 e3 s3 k3 f3 l3) :
    Sp h0 h [OwnA e1 s1 k1 f1 l1, OwnA e2 s2 k2 f2 l2, OwnA e3 s3 k3 f3 l3] := by
  refine ⟨fun _ h => h, hb.pres, fun b => c b - 5, fun b hbb => ?_, fun i A hi => ?_⟩
  · have := hb.col b hbb; dsimp only; omega
  · match i, hi with
    | 0, hi => simp at hi; subst hi; exact ⟨a1.own, fun b hbb => ⟨a1.own.lt hbb, by have := a1.col b hbb; dsimp only; omega⟩⟩
    | 1, hi => simp at hi; subst hi; exact ⟨a2.own, fun b hbb => ⟨a2.own.lt hbb, by have := a2.col b hbb; dsimp only; omega⟩⟩
    | 2, hi => simp at hi; subst hi; exact ⟨a3.own, fun b hbb => ⟨a3.own.lt hbb, by have := a3.col b hbb; dsimp only; omega⟩⟩
    | i + 3, hi => simp at hi
theorem right_n {n : Int} {rows : List (List Int)} (h : rightB n rows = true) : 0 ≤ n ∧ n ≤ 64 ∧ ∀ r ∈ rows, rowOk n r = true := by
  simp only [rightB, Bool.and_eq_true, decide_eq_true_eq, List.all_eq_true] at h
  exact ⟨h.1.1, h.1.2, h.2⟩
theorem row_cols {n : Int} {r : List Int} (h : rowOk n r = true) : ∀ c ∈ r, 0 ≤ c ∧ c < n := by
  simp only [rowOk, Bool.and_eq_true, List.all_eq_true, decide_eq_true_eq] at h
  exact h.1
theorem rises_len : ∀ {r : List Int} {a n : Int}, risesB r = true → (∀ c ∈ r, a ≤ c ∧ c < n) → (r.length : Int) ≤ max 0 (n - a)
  | [], a, n, _, _ => by simp; omega
  | [x], a, n, _, h => by have := h x (by simp); simp; omega
  | x :: y :: t, a, n, hr, h => by
    simp only [risesB, Bool.and_eq_true, decide_eq_true_eq] at hr
    have hx := h x (by simp)
    have hy := h y (by simp)
    have hle : ∀ (l : List Int) (z : Int), risesB (z :: l) = true → ∀ c ∈ l, z < c := by
      intro l
      induction l with
      | nil => intro z _ c hc; simp at hc
      | cons w t ih =>
        intro z hz c hc
        simp only [risesB, Bool.and_eq_true, decide_eq_true_eq] at hz
        rcases List.mem_cons.1 hc with rfl | hc
        · exact hz.1
        · have := ih w hz.2 c hc; omega
    have := rises_len (r := y :: t) (a := x + 1) (n := n) hr.2 fun c hc => ⟨by
      rcases List.mem_cons.1 hc with rfl | hc
      · omega
      · have := hle t y hr.2 c hc; omega, (h c (by simp only [List.mem_cons] at hc ⊢; exact .inr hc)).2⟩
    simp only [List.length_cons] at this ⊢
    omega
theorem row_short {n : Int} {r : List Int} (h : rowOk n r = true) (hn : n ≤ 64) : r.length ≤ 64 := by
  have h1 := row_cols h
  simp only [rowOk, Bool.and_eq_true] at h
  have := rises_len (a := 0) h.2 h1
  omega
theorem set_fill (n k : Nat) (h : k < n) : (List.replicate k true ++ List.replicate (n - k) false).set k true = List.replicate (k + 1) true ++ List.replicate (n - (k + 1)) false := by
  have e : n - k = (n - (k + 1)) + 1 := by omega
  rw [List.set_append_right _ _ (by simp), e, List.replicate_succ]
  simp only [List.length_replicate, Nat.sub_self, List.set_cons_zero]
  rw [List.replicate_succ' (n := k)]; simp
theorem planR_of {h h0 : Heap} {c : Nat → Nat} {a : Addr} {l o u : Sl} {rows : List (List Int)} {rs : List Sl} {op us : List Bool} (hs : Seq2 h0 (fun b => b < h0.size) l 1 intv rows rs) (hb : Base h0 h c) (hx : BoxC h c 2 a T_inact_planner [.slice l.ptr l.len l.cap, .slice o.ptr o.len o.cap, .slice u.ptr u.len u.cap])
    (ho : OwnC h c 3 T_bool o 1 boolv op) (hu : OwnC h c 4 T_bool u 1 boolv us) (hul : us.length = rows.length) (hol : op.length ≤ 64) (hr : ∀ r ∈ rows, rowOk op.length r = true) : PlanR h (fun b => b < h.size) a l o u rows rs op us :=
  ⟨hx.box.cell0 rfl, hx.box.cell rfl, hx.box.cell rfl, hx.box.lt, (hs.pres hb.pres).mono fun b hb' => Nat.lt_of_lt_of_le hb' hb.pres.1, ho.seqB fun _ => rfl, hu.seqB fun _ => rfl, hul, fun r hr' => row_cols (hr r hr'), fun r hr' => row_short (hr r hr') (by omega)⟩
set_option maxHeartbeats 4000000 in
theorem plan_spec (n : Int) (l : Sl) (rows : List (List Int)) (rs : List Sl) (h : Heap) (hl : Seq2 h (fun b => b < h.size) l 1 intv rows rs) (hs : rows.length ≤ 2 ^ 30) (hss : ∀ r ∈ rows, r.length ≤ 2 ^ 40) :
    Meets Tryz.prog inact_Plan_id #[.int .i64 n, .slice l.ptr l.len l.cap] h fun v h' => PlanIs h h' v (rightB n rows) (plOut n rows).1 (plOut n rows).2.1 (plOut n rows).2.2 := by
  refine inact_Plan_run n l ?_
  unfold inact_Plan_m
  have hll := hl.slen
  refine runC_alloc C_ok (Base.refl h) 1 rfl fun a1 h1 ha1 hp1 => ?_
  have hb1 := (Base.refl h).keep (m := 1) hp1 (by decide)
  refine (planRight_spec n l rows rs h1 (hl.pres hb1.pres) (by omega) hss).mono ?_
  rintro v h2 ⟨rfl, rfl⟩
  refine ⟨_, rfl, ?_⟩
  refine br_not (fun hr => ?_) (fun hr => ?_)
  · refine ha1.store0 C_ok rfl _ rfl rfl rfl (Nat.le_refl _) fun h3 ha3 hp3 => ?_
    refine ⟨(⟨none, 0, 0⟩, ⟨none, 0, 0⟩, ⟨none, 0, 0⟩), ha3.box.cells0 _ rfl, ?_⟩
    refine ⟨⟨none, 0, 0⟩, ⟨none, 0, 0⟩, ⟨none, 0, 0⟩, by rw [hr], ?_⟩
    simp only [plOut, hr, Bool.false_eq_true, if_false]
    exact (((Sp.zip (hb1.keep (m := 1) hp3 (by decide)).pres).nil T_api_Step 2 stepv).nil T_int 1 intv).nil T_int 1 intv
  · obtain ⟨hn0, hn1, hrows⟩ := right_n hr
    obtain ⟨N, rfl⟩ : ∃ N : Nat, n = N := ⟨n.toNat, by omega⟩
    have hN : N ≤ 64 := by omega
    refine join_cut (fun s h' => ∃ c a o u, s = some a ∧ Base h h' c ∧ BoxC h' c 1 a1 T_api_Plan [.slice none 0 0, .slice none 0 0, .slice none 0 0] ∧ BoxC h' c 2 a T_inact_planner [.slice l.ptr l.len l.cap, .slice o.ptr o.len o.cap, .slice u.ptr u.len u.cap] ∧
      OwnC h' c 3 T_bool o 1 boolv (List.replicate N false) ∧ OwnC h' c 4 T_bool u 1 boolv (List.replicate rows.length false)) ⟨?_, ?_⟩ ?_
    · refine runC_make C_ok hb1 3 boolv ⟨_, _, rfl, rfl, rfl, rfl, rfl, rfl⟩ (by decide) false rfl rfl N rfl rfl (by omega) fun o h3 ho hp3 => ?_
      refine ⟨trivial, ?_⟩
      refine runC_make C_ok (hb1.keep (m := 3) hp3 (by decide)) 4 boolv ⟨_, _, rfl, rfl, rfl, rfl, rfl, rfl⟩ (by decide) false rfl rfl rows.length (by omega) (by omega) (by omega) fun u h4 hu hp4 => ?_
      refine ⟨trivial, ?_⟩
      refine runC_box _ ((hb1.keep (m := 3) hp3 (by decide)).keep (m := 4) hp4 (by decide)) 2 fun a h5 ha hp5 => ?_
      exact ⟨trivial, _, a, o, u, rfl, ((hb1.keep hp3 (by decide)).keep hp4 (by decide)).keep hp5 (by decide), ((ha1.keep hp3 (by decide)).keep hp4 (by decide)).keep hp5 (by decide), ha, (ho.keep hp4 (by decide)).keep hp5 (by decide), hu.keep hp5 (by decide)⟩
    · refine runC_make C_ok hb1 4 boolv ⟨_, _, rfl, rfl, rfl, rfl, rfl, rfl⟩ (by decide) false rfl rfl rows.length (by omega) (by omega) (by omega) fun u h3 hu hp3 => ?_
      refine ⟨trivial, ?_⟩
      refine runC_make C_ok (hb1.keep (m := 4) hp3 (by decide)) 3 boolv ⟨_, _, rfl, rfl, rfl, rfl, rfl, rfl⟩ (by decide) false rfl rfl N rfl rfl (by omega) fun o h4 ho hp4 => ?_
      refine ⟨trivial, ?_⟩
      refine runC_box _ ((hb1.keep (m := 4) hp3 (by decide)).keep (m := 3) hp4 (by decide)) 2 fun a h5 ha hp5 => ?_
      exact ⟨trivial, _, a, o, u, rfl, ((hb1.keep hp3 (by decide)).keep hp4 (by decide)).keep hp5 (by decide), ((ha1.keep hp3 (by decide)).keep hp4 (by decide)).keep hp5 (by decide), ha, ho.keep hp5 (by decide), (hu.keep hp4 (by decide)).keep hp5 (by decide)⟩
    · rintro s h3 ⟨c, a, o, u, rfl, hb3, hr3, ha3, ho3, hu3⟩
      refine ⟨a, rfl, o, ha3.box.cell rfl, ?_⟩
      have hol : o.len = N := by rw [ho3.own.len]; simp
      refine loop_inv (fun t : Nat × (Nat → Nat) => (t.1 : Int)) (fun t h' => t.1 ≤ N ∧ Base h h' t.2 ∧ BoxC h' t.2 1 a1 T_api_Plan [.slice none 0 0, .slice none 0 0, .slice none 0 0] ∧ BoxC h' t.2 2 a T_inact_planner [.slice l.ptr l.len l.cap, .slice o.ptr o.len o.cap, .slice u.ptr u.len u.cap] ∧
        OwnC h' t.2 3 T_bool o 1 boolv (List.replicate t.1 true ++ List.replicate (N - t.1) false) ∧ OwnC h' t.2 4 T_bool u 1 boolv (List.replicate rows.length false)) (fun t => N - t.1) (0, c) rfl ⟨by simp, hb3, hr3, ha3, by simpa using ho3, hu3⟩ ?_
      rintro ⟨k, c⟩ h4 ⟨hk, hb4, hr4, ha4, ho4, hu4⟩
      dsimp only at *
      refine br_dec (fun hlt => ?_) (fun hge => ?_)
      · have hk' : k < N := by omega
        refine ⟨a, rfl, o, ha4.box.cell rfl, ?_⟩
        refine ho4.set C_ok (fun _ => rfl) rfl k rfl (by simp; omega) true rfl rfl rfl fun h5 ho5 hp5 => ?_
        rw [Go.Vc.wrap_small _ (by omega) (by omega)]
        rw [set_fill _ _ hk'] at ho5
        exact ⟨(k + 1, _), by simp, ⟨by simp; omega, hb4.keep hp5 (by decide), hr4.keep hp5 (by decide), ha4.keep hp5 (by decide), ho5, hu4.keep hp5 (by decide)⟩, by simp; omega⟩
      · have hkN : k = N := by omega
        subst hkN
        simp only [Nat.sub_self, List.replicate_zero, List.append_nil] at ho4
        refine runC_alloc C_ok hb4 5 rfl fun ap h5 hap hp5 => ?_
        have hb5 := hb4.keep (m := 5) hp5 (by decide)
        have hr5 := hr4.keep (m := 5) hp5 (by decide)
        have ha5 := ha4.keep (m := 5) hp5 (by decide)
        have ho5 := ho4.keep (m := 5) hp5 (by decide)
        have hu5 := hu4.keep (m := 5) hp5 (by decide)
        clear hb4 hr4 ha4 ho4 hu4 hb3 hr3 ha3 ho3 hu3
        generalize grow c h4.size 5 = c5 at *
        refine loop_inv (τ := Nat × List Bool × List Bool × (List (Int × Int)) × List Int × (Nat → Nat) × Sl × Sl) (fun _ => ())
          (fun ⟨f, op, us, st, dd, c, ss, ds⟩ h' => op.length = k ∧ us.length = rows.length ∧ op.count true ≤ f ∧ f ≤ k ∧ st.length ≤ k - f ∧ dd.length ≤ k - f ∧
            (∃ r, planRun rows f op us = r ∧ planL k rows = ⟨st ++ r.steps, dd ++ r.dead, r.used⟩) ∧ Base h h' c ∧
            BoxC h' c 1 a1 T_api_Plan [.slice none 0 0, .slice none 0 0, .slice none 0 0] ∧ BoxC h' c 2 a T_inact_planner [.slice l.ptr l.len l.cap, .slice o.ptr o.len o.cap, .slice u.ptr u.len u.cap] ∧
            OwnC h' c 3 T_bool o 1 boolv op ∧ OwnC h' c 4 T_bool u 1 boolv us ∧
            BoxC h' c 5 ap T_api_Plan [.slice ss.ptr ss.len ss.cap, .slice ds.ptr ds.len ds.cap, .slice none 0 0] ∧ OwnC h' c 6 T_api_Step ss 2 stepv st ∧ OwnC h' c 7 T_int ds 1 intv dd)
          (fun t => t.1) (k, List.replicate k true, List.replicate rows.length false, [], [], c5, ⟨none, 0, 0⟩, ⟨none, 0, 0⟩) rfl
          ⟨by simp, by simp, by simp, by simp, by simp, by simp, ⟨_, rfl, by simp [planL]⟩, hb5, hr5, ha5, ho5, hu5, hap, OwnC.nil _ _ _ _ _ _, OwnC.nil _ _ _ _ _ _⟩ ?_
        rintro ⟨f, op, us, st, dd, c, ss, ds⟩ h6 ⟨hopl, husl, hcnt, hfk, hstl, hddl, ⟨r, hr1, hr2⟩, hb6, hr6, ha6, ho6, hu6, hap6, hss6, hds6⟩
        dsimp only at *
        have hrows' : ∀ r ∈ rows, rowOk op.length r = true := by rw [hopl]; exact hrows
        have hPR := planR_of hl hb6 ha6 ho6 hu6 husl (by omega) hrows'
        refine ⟨a, rfl, o, ha6.box.cell rfl, ?_⟩
        refine (contains_bool_spec o op true h6 (ho6.seqB fun _ => rfl) (by omega)).mono ?_
        rintro v h7 ⟨rfl, rfl⟩
        refine ⟨_, rfl, ?_⟩
        refine br_not (fun hc => ?_) (fun hc => ?_)
        · have hc' : op.contains true = false := by simpa using hc
          have hr3 : r = ⟨[], [], us⟩ := by rw [← hr1]; exact plan_stop hc' f
          subst hr3
          simp only [List.append_nil] at hr2
          refine ⟨a, rfl, u, ha6.box.cell rfl, ?_⟩
          have hul : u.len = rows.length := by rw [hu6.own.len, husl]
          refine loop_inv (fun t : Nat × (Nat → Nat) × Sl => (t.1 : Int)) (fun ⟨j, c, fs⟩ h' => j ≤ rows.length ∧ Base h h' c ∧
            BoxC h' c 1 a1 T_api_Plan [.slice none 0 0, .slice none 0 0, .slice none 0 0] ∧ OwnC h' c 4 T_bool u 1 boolv us ∧
            BoxC h' c 5 ap T_api_Plan [.slice ss.ptr ss.len ss.cap, .slice ds.ptr ds.len ds.cap, .slice fs.ptr fs.len fs.cap] ∧ OwnC h' c 6 T_api_Step ss 2 stepv st ∧ OwnC h' c 7 T_int ds 1 intv dd ∧ OwnC h' c 8 T_int fs 1 intv (leftL us j)) (fun t => rows.length - t.1) (0, c, ⟨none, 0, 0⟩) rfl
            ⟨by simp, hb6, hr6, hu6, hap6, hss6, hds6, OwnC.nil _ _ _ _ _ _⟩ ?_
          rintro ⟨j, c, fs⟩ h8 ⟨hj, hb8, hr8, hu8, hap8, hss8, hds8, hfs8⟩
          dsimp only at *
          refine br_dec (fun hlt => ?_) (fun hge => ?_)
          · have hj' : j < rows.length := by omega
            have hjl : (leftL us j).length ≤ j := left_le us j
            refine (hu8.seqB fun _ => rfl).get1 j rfl (by omega) _ rfl ?_
            have hug : us.getD j false = us[j] := getDb_lt (by omega)
            rw [Go.Vc.wrap_small _ (by omega) (by omega)]
            refine br_not (fun hb => ?_) (fun hb => ?_)
            · refine ⟨fs, hap8.box.cell rfl, ?_⟩
              refine runC_lit C_ok hb8 9 intv ⟨_, _, rfl, rfl, rfl, rfl, rfl, rfl⟩ rfl [(j : Int)] rfl (Nat.le_of_ble_eq_true rfl) rfl fun v h9 hv9 hp9 => ?_
              refine (hfs8.keep (m := 9) hp9 (by decide)).append C_ok ⟨_, _, rfl, rfl, rfl, rfl, rfl, rfl⟩ ⟨_, _, rfl, rfl⟩ rfl (by decide) (fun _ => rfl) (hv9.seq fun _ => rfl) one_int (by simp; omega) fun fs' h10 hfs10 hp10 => ?_
              refine ((hap8.keep (m := 9) hp9 (by decide)).keep (m := 8) hp10 (by decide)).store C_ok rfl 2 _ rfl rfl rfl (Nat.le_of_ble_eq_true rfl) fun h11 hap11 hp11 => ?_
              refine ⟨(j + 1, _, fs'), by simp, ⟨by simp; omega, ((hb8.keep hp9 (by decide)).keep hp10 (by decide)).keep hp11 (by decide), ((hr8.keep hp9 (by decide)).keep hp10 (by decide)).keep hp11 (by decide), ((hu8.keep hp9 (by decide)).keep hp10 (by decide)).keep hp11 (by decide), hap11,
                ((hss8.keep hp9 (by decide)).keep hp10 (by decide)).keep hp11 (by decide), ((hds8.keep hp9 (by decide)).keep hp10 (by decide)).keep hp11 (by decide), ?_⟩, by simp; omega⟩
              have e : leftL us (j + 1) = leftL us j ++ [(j : Int)] := by rw [leftL, hug, hb]; rfl
              rw [e]
              exact hfs10.keep hp11 (by decide)
            · have e : leftL us (j + 1) = leftL us j := by rw [leftL, hug, hb]; rfl
              exact ⟨(j + 1, c, fs), by simp, ⟨by simp; omega, hb8, hr8, hu8, hap8, hss8, hds8, by rw [e]; exact hfs8⟩, by simp; omega⟩
          · have hje : j = rows.length := by omega
            subst hje
            refine ⟨(ss, ds, fs), hap8.box.cells0 _ rfl, ?_⟩
            refine hr8.store0 C_ok rfl _ rfl rfl rfl (Nat.le_refl _) fun h9 hr9 hp9 => ?_
            refine ⟨(ss, ds, fs), hr9.box.cells0 _ rfl, ?_⟩
            refine ⟨ss, ds, fs, by rw [hr], ?_⟩
            simp only [plOut, hr, if_true, Int.toNat_natCast, hr2]
            exact sp_cols (hb8.keep (m := 1) hp9 (by decide)) (hss8.keep (m := 1) hp9 (by decide)) (hds8.keep (m := 1) hp9 (by decide)) (hfs8.keep (m := 1) hp9 (by decide))
        · have hc' : op.contains true = true := by simpa using hc
          obtain ⟨f', rfl⟩ : ∃ f', f = f' + 1 := by
            obtain ⟨j, hj, e⟩ := contains_get hc'
            have := count_close e
            exact ⟨f - 1, by omega⟩
          refine join_in ?_
          refine (planStep_spec a l o u rows rs op us h7 hPR (by omega)).mono ?_
          rintro v h8 ⟨hp8, rfl⟩
          have hp8 := hp8.col c 9
          cases hst : stepL rows op us with
          | some i =>
            obtain ⟨hi, htl⟩ := step_tells hst
            obtain ⟨ho1, ho2, ho3⟩ := col_open htl
            have hrow : rows.getD i [] = rows[i] := by rw [List.getD_eq_getElem?_getD, List.getElem?_eq_getElem hi]; rfl
            have hcol := row_cols (hrows' _ (List.getElem_mem hi)) _ (hrow ▸ ho2)
            refine ⟨((i, colOf rows op i), true), rfl, ?_⟩
            dsimp only
            refine runC_alloc C_ok (hb6.keep (m := 9) hp8 (by decide)) 9 rfl fun ax h9 has hp9 => ?_
            refine has.store0 C_ok rfl _ rfl rfl rfl (Nat.le_refl _) fun h10 has10 hp10 => ?_
            refine br_t rfl ?_
            have hb10 := ((hb6.keep (m := 9) hp8 (by decide)).keep (m := 9) hp9 (by decide)).keep (m := 9) hp10 (by decide)
            have hr10 := ((hr6.keep (m := 9) hp8 (by decide)).keep (m := 9) hp9 (by decide)).keep (m := 9) hp10 (by decide)
            have ha10 := ((ha6.keep (m := 9) hp8 (by decide)).keep (m := 9) hp9 (by decide)).keep (m := 9) hp10 (by decide)
            have ho10 := ((ho6.keep (m := 9) hp8 (by decide)).keep (m := 9) hp9 (by decide)).keep (m := 9) hp10 (by decide)
            have hu10 := ((hu6.keep (m := 9) hp8 (by decide)).keep (m := 9) hp9 (by decide)).keep (m := 9) hp10 (by decide)
            have hap10 := ((hap6.keep (m := 9) hp8 (by decide)).keep (m := 9) hp9 (by decide)).keep (m := 9) hp10 (by decide)
            have hss10 := ((hss6.keep (m := 9) hp8 (by decide)).keep (m := 9) hp9 (by decide)).keep (m := 9) hp10 (by decide)
            have hds10 := ((hds6.keep (m := 9) hp8 (by decide)).keep (m := 9) hp9 (by decide)).keep (m := 9) hp10 (by decide)
            clear hb6 hr6 ha6 ho6 hu6 hap6 hss6 hds6 hp8 hp9 has hPR
            generalize grow (grow (grow c h7.size 9) h8.size 9) h9.size 9 = c10 at *
            refine ⟨ss, hap10.box.cell0 rfl, (_, _), has10.box.cells0 _ rfl, ?_⟩
            dsimp only
            refine runC_lit C_ok hb10 10 stepv ⟨_, _, rfl, rfl, rfl, rfl, rfl, rfl⟩ rfl [((i : Int), colOf rows op i)] rfl (Nat.le_of_ble_eq_true rfl) rfl fun v h11 hv11 hp11 => ?_
            refine (hss10.keep (m := 10) hp11 (by decide)).append C_ok ⟨_, _, rfl, rfl, rfl, rfl, rfl, rfl⟩ ⟨_, _, rfl, rfl⟩ rfl (by decide) (fun _ => rfl) (hv11.seq fun _ => rfl) one_step (by simp; omega) fun ss' h12 hss12 hp12 => ?_
            refine ((hap10.keep (m := 10) hp11 (by decide)).keep (m := 6) hp12 (by decide)).store0 C_ok rfl _ rfl rfl rfl (Nat.le_of_ble_eq_true rfl) fun h13 hap13 hp13 => ?_
            have has13 := ((has10.keep (m := 10) hp11 (by decide)).keep (m := 6) hp12 (by decide)).keep (m := 5) hp13 (by decide)
            have ha13 := ((ha10.keep (m := 10) hp11 (by decide)).keep (m := 6) hp12 (by decide)).keep (m := 5) hp13 (by decide)
            have hu13 := ((hu10.keep (m := 10) hp11 (by decide)).keep (m := 6) hp12 (by decide)).keep (m := 5) hp13 (by decide)
            have ho13 := ((ho10.keep (m := 10) hp11 (by decide)).keep (m := 6) hp12 (by decide)).keep (m := 5) hp13 (by decide)
            refine ⟨a, rfl, u, ha13.box.cell rfl, (i : Int), has13.box.cell0 rfl, a, rfl, o, ha13.box.cell rfl, colOf rows op i, has13.box.cell rfl, ?_⟩
            refine hu13.set C_ok (fun _ => rfl) rfl i rfl (by omega) true rfl rfl rfl fun h14 hu14 hp14 => ?_
            have has14 := has13.keep (m := 4) hp14 (by decide)
            have ha14 := ha13.keep (m := 4) hp14 (by decide)
            refine ⟨⟨has14.box.cell rfl, trivial⟩, ?_⟩
            refine (ho13.keep (m := 4) hp14 (by decide)).set C_ok (fun _ => rfl) rfl (colOf rows op i).toNat (by omega) (by omega) false rfl rfl rfl fun h15 ho15 hp15 => ?_
            have has15 := has14.keep (m := 3) hp15 (by decide)
            have ha15 := ha14.keep (m := 3) hp15 (by decide)
            refine ⟨trivial, ?_⟩
            have hcc := count_close (op := op) (j := (colOf rows op i).toNat) ho3
            rw [plan_step hc' hst] at hr1
            refine ⟨(f', op.set (colOf rows op i).toNat false, us.set i true, st ++ [((i : Int), colOf rows op i)], dd, _, ss', ds), rfl, ⟨by simp [hopl], by simp [husl], by dsimp only; omega, by dsimp only; omega, by simp; omega, by dsimp only; omega, ⟨_, rfl, ?_⟩,
              ((((hb10.keep hp11 (by decide)).keep hp12 (by decide)).keep hp13 (by decide)).keep hp14 (by decide)).keep hp15 (by decide),
              ((((hr10.keep hp11 (by decide)).keep hp12 (by decide)).keep hp13 (by decide)).keep hp14 (by decide)).keep hp15 (by decide),
              ha15, ho15, hu14.keep hp15 (by decide), (hap13.keep hp14 (by decide)).keep hp15 (by decide), ((hss12.keep hp13 (by decide)).keep hp14 (by decide)).keep hp15 (by decide),
              ((((hds10.keep hp11 (by decide)).keep hp12 (by decide)).keep hp13 (by decide)).keep hp14 (by decide)).keep hp15 (by decide)⟩, by dsimp only; omega⟩
            rw [hr2, ← hr1]
            simp
          | none =>
            have hmo := most_open (rows := rows) (us := us) hc'
            refine ⟨((0, 0), false), rfl, ?_⟩
            dsimp only
            refine runC_alloc C_ok (hb6.keep (m := 9) hp8 (by decide)) 9 rfl fun ax h9 has hp9 => ?_
            refine has.store0 C_ok rfl _ rfl rfl rfl (Nat.le_refl _) fun h10 has10 hp10 => ?_
            refine br_f rfl ?_
            have hb10 := ((hb6.keep (m := 9) hp8 (by decide)).keep (m := 9) hp9 (by decide)).keep (m := 9) hp10 (by decide)
            have hr10 := ((hr6.keep (m := 9) hp8 (by decide)).keep (m := 9) hp9 (by decide)).keep (m := 9) hp10 (by decide)
            have ha10 := ((ha6.keep (m := 9) hp8 (by decide)).keep (m := 9) hp9 (by decide)).keep (m := 9) hp10 (by decide)
            have ho10 := ((ho6.keep (m := 9) hp8 (by decide)).keep (m := 9) hp9 (by decide)).keep (m := 9) hp10 (by decide)
            have hu10 := ((hu6.keep (m := 9) hp8 (by decide)).keep (m := 9) hp9 (by decide)).keep (m := 9) hp10 (by decide)
            have hap10 := ((hap6.keep (m := 9) hp8 (by decide)).keep (m := 9) hp9 (by decide)).keep (m := 9) hp10 (by decide)
            have hss10 := ((hss6.keep (m := 9) hp8 (by decide)).keep (m := 9) hp9 (by decide)).keep (m := 9) hp10 (by decide)
            have hds10 := ((hds6.keep (m := 9) hp8 (by decide)).keep (m := 9) hp9 (by decide)).keep (m := 9) hp10 (by decide)
            clear hb6 hr6 ha6 ho6 hu6 hap6 hss6 hds6 hp8 hp9 has hPR
            generalize grow (grow (grow c h7.size 9) h8.size 9) h9.size 9 = c10 at *
            have hPR := planR_of hl hb10 ha10 ho10 hu10 husl (by omega) hrows'
            refine (planMost_spec a l o u rows rs op us h10 hPR (by omega) (by omega)).mono ?_
            rintro v h11 ⟨hp11, rfl⟩
            have hp11 := hp11.col c10 9
            refine ⟨_, rfl, ?_⟩
            refine ⟨ds, (hap10.keep (m := 9) hp11 (by decide)).box.cell rfl, ?_⟩
            refine runC_lit C_ok (hb10.keep (m := 9) hp11 (by decide)) 10 intv ⟨_, _, rfl, rfl, rfl, rfl, rfl, rfl⟩ rfl [mostL rows op us] rfl (Nat.le_of_ble_eq_true rfl) rfl fun v h12 hv12 hp12 => ?_
            refine ((hds10.keep (m := 9) hp11 (by decide)).keep (m := 10) hp12 (by decide)).append C_ok ⟨_, _, rfl, rfl, rfl, rfl, rfl, rfl⟩ ⟨_, _, rfl, rfl⟩ rfl (by decide) (fun _ => rfl) (hv12.seq fun _ => rfl) one_int (by simp; omega) fun ds' h13 hds13 hp13 => ?_
            refine (((hap10.keep (m := 9) hp11 (by decide)).keep (m := 10) hp12 (by decide)).keep (m := 7) hp13 (by decide)).store C_ok rfl 1 _ rfl rfl rfl (Nat.le_of_ble_eq_true rfl) fun h14 hap14 hp14 => ?_
            have ha14 := (((ha10.keep (m := 9) hp11 (by decide)).keep (m := 10) hp12 (by decide)).keep (m := 7) hp13 (by decide)).keep (m := 5) hp14 (by decide)
            have ho14 := (((ho10.keep (m := 9) hp11 (by decide)).keep (m := 10) hp12 (by decide)).keep (m := 7) hp13 (by decide)).keep (m := 5) hp14 (by decide)
            refine ⟨a, rfl, o, ha14.box.cell rfl, ?_⟩
            refine ho14.set C_ok (fun _ => rfl) rfl (mostL rows op us).toNat (by omega) (by omega) false rfl rfl rfl fun h15 ho15 hp15 => ?_
            have hcc := count_close (op := op) (j := (mostL rows op us).toNat) hmo.2.2
            rw [plan_dead hc' hst] at hr1
            refine ⟨(f', op.set (mostL rows op us).toNat false, us, st, dd ++ [mostL rows op us], _, ss, ds'), rfl, ⟨by simp [hopl], husl, by dsimp only; omega, by dsimp only; omega, by dsimp only; omega, by simp; omega, ⟨_, rfl, ?_⟩,
              ((((hb10.keep hp11 (by decide)).keep hp12 (by decide)).keep hp13 (by decide)).keep hp14 (by decide)).keep hp15 (by decide),
              ((((hr10.keep hp11 (by decide)).keep hp12 (by decide)).keep hp13 (by decide)).keep hp14 (by decide)).keep hp15 (by decide),
              ha14.keep hp15 (by decide), ho15, ((((hu10.keep hp11 (by decide)).keep hp12 (by decide)).keep hp13 (by decide)).keep hp14 (by decide)).keep hp15 (by decide), hap14.keep hp15 (by decide),
              ((((hss10.keep hp11 (by decide)).keep hp12 (by decide)).keep hp13 (by decide)).keep hp14 (by decide)).keep hp15 (by decide),
              (hds13.keep hp14 (by decide)).keep hp15 (by decide)⟩, by dsimp only; omega⟩
            rw [hr2, ← hr1]
            simp
end Go.Proofs.YtkcplnfomahleaaGreatDoor
