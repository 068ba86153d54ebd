/- Part of the proofs that wellspringlaw13's laws answer true whatever the input reads, and leave it as it was; no condition. -/
import Derived.Test.YtlefjaiignpnaaaTab
import Derived.Test.YtlefjaiignpnaaaPlA
import Derived.Test.YtlefjaiignpnaaaHpA
namespace Go.Proofs.Ytlefjaiignpnaaa
open Go Go.Vc Go.Proofs
set_option maxRecDepth 100000

theorem tmod_fix (x n : Int) (hn : 0 < n) : x % n = if x.tmod n < 0 then x.tmod n + n else x.tmod n := by
  have h1 := Int.tmod_lt_of_pos x hn
  have h2 : -n < x.tmod n := Int.lt_tmod_of_pos x hn
  have e1 := Int.tmod_add_mul_tdiv x n
  have hpos : 0 ≤ (if x.tmod n < 0 then x.tmod n + n else x.tmod n) ∧ (if x.tmod n < 0 then x.tmod n + n else x.tmod n) < n := by split <;> omega
  have e2 : x = (if x.tmod n < 0 then x.tmod n + n else x.tmod n) + n * (if x.tmod n < 0 then x.tdiv n - 1 else x.tdiv n) := by
    split
    · rw [Int.mul_sub]; omega
    · omega
  conv => lhs; rw [e2]
  rw [Int.add_mul_emod_self_left, Int.emod_eq_of_lt hpos.1 hpos.2]

theorem within_spec (x n : Int) (h : Heap) (hn : 0 < n) (hb : n ≤ 2 ^ 62) : Spec Try.prog wellspringkeep_Within_id #[.int .i64 x, .int .i64 n] h fun v h' => v = .int .i64 (x % n) ∧ h' = h := by
  refine wellspringkeep_Within_run x n ?_
  unfold wellspringkeep_Within_m
  have h1 := Int.tmod_lt_of_pos x hn
  have h2 : -n < x.tmod n := Int.lt_tmod_of_pos x hn
  have he := tmod_fix x n hn
  refine ⟨by omega, join_in ?_⟩
  refine br_dec (fun hlt => ?_) (fun hge => ?_)
  · rw [wrap_small _ (by omega) (by omega)]
    exact ⟨by rw [he, if_pos hlt], rfl⟩
  · exact ⟨by rw [he, if_neg hge], rfl⟩

theorem take_snoc {α : Type} (l : List α) (k : Nat) (h : k < l.length) : l.take (k + 1) = l.take k ++ [l[k]] := List.take_succ_eq_append_getElem h

theorem same_int_spec {p q : Blocks} (a b : Sl) (la lb : List Int) (h : Heap) (ha : Seq h p a 1 intv la) (hb : Seq h q b 1 intv lb) (hs : la.length ≤ 2 ^ 40) :
    Spec Try.prog wellspringkeep_Same_int_id #[.slice a.ptr a.len a.cap, .slice b.ptr b.len b.cap] h fun v h' => v = .bool (decide (la = lb)) ∧ h' = h := by
  refine wellspringkeep_Same_int_run a b ?_
  unfold wellspringkeep_Same_int_m
  have hal := ha.len; have hbl := hb.len
  refine br_ne (fun hne => ⟨?_, rfl⟩) (fun heq => ?_)
  · rw [decide_eq_false (fun e => hne (by rw [hal, hbl, e]))]
  · refine loop_inv (fun k : Nat => (k : Int)) (fun k h' => h' = h ∧ k ≤ la.length ∧ la.take k = lb.take k) (fun k => la.length - k) 0 rfl ⟨rfl, by omega, by simp⟩ ?_
    rintro k h' ⟨rfl, hk, ht⟩
    refine br_dec (fun hlt => ?_) (fun hge => ?_)
    · have hk' : k < la.length := by omega
      have hk2 : k < lb.length := by omega
      refine ha.get1 k rfl hk' _ rfl ?_
      refine hb.get1 k rfl hk2 _ rfl ?_
      refine br_ne (fun hne => ⟨?_, rfl⟩) (fun heq => ?_)
      · rw [decide_eq_false]
        intro e; subst e; exact hne rfl
      · rw [wrap_small _ (by omega) (by omega)]
        exact ⟨k + 1, by simp, ⟨rfl, by omega, by rw [take_snoc _ _ hk', take_snoc _ _ hk2, ht, heq]⟩, by omega⟩
    · have : k = la.length := by omega
      subst this
      rw [List.take_of_length_le (by omega), List.take_of_length_le (by omega)] at ht
      exact ⟨by rw [decide_eq_true ht], rfl⟩

theorem member_spec {p : Blocks} (a : Sl) (la : List Int) (x : Int) (h : Heap) (ha : Seq h p a 1 intv la) (hs : la.length ≤ 2 ^ 40) :
    Spec Try.prog wellspringkeep_Member_int_id #[.slice a.ptr a.len a.cap, .int .i64 x] h fun v h' => v = .bool (decide (x ∈ la)) ∧ h' = h := by
  refine wellspringkeep_Member_int_run a x ?_
  unfold wellspringkeep_Member_int_m
  have hal := ha.len
  refine loop_inv (fun k : Nat => (k : Int)) (fun k h' => h' = h ∧ k ≤ la.length ∧ x ∉ la.take k) (fun k => la.length - k) 0 rfl ⟨rfl, by omega, by simp⟩ ?_
  rintro k h' ⟨rfl, hk, ht⟩
  refine br_dec (fun hlt => ?_) (fun hge => ?_)
  · have hk' : k < la.length := by omega
    refine ha.get1 k rfl hk' _ rfl ?_
    refine br_eq (fun heq => ⟨?_, rfl⟩) (fun hne => ?_)
    · rw [decide_eq_true (by rw [← heq]; exact List.getElem_mem hk')]
    · rw [wrap_small _ (by omega) (by omega)]
      refine ⟨k + 1, by simp, ⟨rfl, by omega, ?_⟩, by omega⟩
      rw [take_snoc _ _ hk']
      simp only [List.mem_append, List.mem_singleton, not_or]
      exact ⟨ht, fun e => hne e.symm⟩
  · rw [List.take_of_length_le (by omega)] at ht
    exact ⟨by rw [decide_eq_false ht], rfl⟩

/-- The least first, none twice. -/
def risesB : List Int → Bool
  | [] => true
  | [_] => true
  | a :: b :: r => decide (a < b) && risesB (b :: r)
theorem rises_snoc : ∀ (l : List Int) (a b : Int), risesB (l ++ [a, b]) = (risesB (l ++ [a]) && decide (a < b))
  | [], a, b => by simp [risesB]
  | [c], a, b => by simp [risesB]
  | c :: d :: r, a, b => by
    have := rises_snoc (d :: r) a b
    simp only [List.cons_append] at this ⊢
    simp only [risesB, this, Bool.and_assoc]
theorem rises_app {l r : List Int} (h : risesB l = false) : risesB (l ++ r) = false := by
  induction l with
  | nil => simp [risesB] at h
  | cons a t ih =>
    cases t with
    | nil => simp [risesB] at h
    | cons b t =>
      simp only [risesB, Bool.and_eq_false_iff] at h
      simp only [List.cons_append, risesB, Bool.and_eq_false_iff]
      rcases h with h | h
      · exact .inl h
      · exact .inr (ih h)
theorem take_two (l : List Int) (k : Nat) (h : k + 1 < l.length) : l.take (k + 2) = l.take k ++ [l[k], l[k + 1]] := by
  have e1 : l.take (k + 2) = l.take (k + 1) ++ [l[k + 1]] := take_snoc l (k + 1) h
  have e2 := take_snoc l k (by omega)
  rw [e1, e2, List.append_assoc]; rfl

theorem rises_spec {p : Blocks} (a : Sl) (la : List Int) (h : Heap) (ha : Seq h p a 1 intv la) (hs : la.length ≤ 2 ^ 40) :
    Spec Try.prog wellspringkeep_Rises_id #[.slice a.ptr a.len a.cap] h fun v h' => v = .bool (risesB la) ∧ h' = h := by
  refine wellspringkeep_Rises_run a ?_
  unfold wellspringkeep_Rises_m
  have hal := ha.len
  refine loop_inv (fun k : Nat => ((k + 1 : Nat) : Int)) (fun k h' => h' = h ∧ k ≤ la.length ∧ risesB (la.take (k + 1)) = true) (fun k => la.length - k) 0 rfl ⟨rfl, by omega, ?_⟩ ?_
  · cases la <;> simp [risesB]
  rintro k h' ⟨rfl, hk, ht⟩
  refine br_dec (fun hlt => ?_) (fun hge => ?_)
  · have hk' : k + 1 < la.length := by omega
    refine ha.get1 (k + 1) (by omega) hk' _ rfl ?_
    rw [wrap_small _ (by omega) (by omega), wrap_small _ (by omega) (by omega)]
    refine ha.get1 k (by omega) (by omega) _ rfl ?_
    have h2 : risesB (la.take (k + 2)) = (risesB (la.take (k + 1)) && decide (la[k] < la[k + 1])) := by
      rw [take_two la k hk', rises_snoc, take_snoc la k (by omega)]
    refine br_dec (fun hle => ⟨?_, rfl⟩) (fun hgt => ?_)
    · rw [← List.take_append_drop (k + 2) la, rises_app]
      rw [h2, decide_eq_false (by omega)]; simp
    · refine ⟨k + 1, by omega, ⟨rfl, by omega, ?_⟩, by omega⟩
      rw [h2, ht, decide_eq_true (by omega)]; rfl
  · rw [List.take_of_length_le (by omega)] at ht
    exact ⟨by rw [ht], rfl⟩
end Go.Proofs.Ytlefjaiignpnaaa

namespace Go.Proofs.Ytlefjaiignpnaaa
open Go Go.Vc Go.Proofs
set_option maxRecDepth 100000

/-- Rows of a plan: rising, from 0 to n - 1. -/
def rowOk (n : Int) (r : List Int) : Bool := r.all (fun c => decide (0 ≤ c ∧ c < n)) && risesB r
theorem rowOk_app {n : Int} {l r : List Int} (h : rowOk n l = false) : rowOk n (l ++ r) = false := by
  simp only [rowOk, Bool.and_eq_false_iff] at *
  rcases h with h | h
  · left; rw [List.all_append, h]; rfl
  · right; exact rises_app h
theorem rowOk_zero {n : Int} {r : List Int} (h : 0 < r.length) : rowOk n (r.take 1) = decide (0 ≤ r[0] ∧ r[0] < n) := by
  cases r with
  | nil => simp at h
  | cons a t => simp [rowOk, risesB]
theorem rowOk_step {n : Int} {r : List Int} {k : Nat} (h : k + 1 < r.length) : rowOk n (r.take (k + 2)) = (rowOk n (r.take (k + 1)) && decide (0 ≤ r[k + 1] ∧ r[k + 1] < n) && decide (r[k] < r[k + 1])) := by
  have e1 : r.take (k + 2) = r.take (k + 1) ++ [r[k + 1]] := take_snoc r (k + 1) h
  have e2 : risesB (r.take (k + 2)) = (risesB (r.take (k + 1)) && decide (r[k] < r[k + 1])) := by
    rw [take_two r k h, rises_snoc, take_snoc r k (by omega)]
  simp only [rowOk, e2]
  rw [e1, List.all_append]
  simp only [List.all_cons, List.all_nil, Bool.and_true]
  cases (r.take (k + 1)).all fun c => decide (0 ≤ c ∧ c < n) <;> cases risesB (r.take (k + 1)) <;> cases decide (0 ≤ r[k + 1] ∧ r[k + 1] < n) <;> simp
theorem rowOk_no {n : Int} {r : List Int} {k : Nat} (h : rowOk n (r.take k) = false) : rowOk n r = false := by
  rw [← List.take_append_drop k r]; exact rowOk_app h

/-- What the loop over a row knows, k of it seen. -/
theorem rowOk_next {n : Int} {r : List Int} {k : Nat} (hk : k < r.length) (h : rowOk n (r.take k) = true) :
    (r[k] < 0 → rowOk n r = false) ∧ (n ≤ r[k] → rowOk n r = false) ∧ (∀ (h0 : 0 < k), r[k] ≤ r[k - 1] → rowOk n r = false) ∧
    (0 ≤ r[k] → r[k] < n → (∀ h0 : 0 < k, r[k - 1] < r[k]) → rowOk n (r.take (k + 1)) = true) := by
  cases k with
  | zero =>
    have e := rowOk_zero (n := n) hk
    refine ⟨fun h1 => rowOk_no (k := 1) ?_, fun h1 => rowOk_no (k := 1) ?_, fun h0 => by omega, fun h1 h2 _ => ?_⟩
    · rw [e, decide_eq_false (by omega)]
    · rw [e, decide_eq_false (by omega)]
    · rw [e, decide_eq_true ⟨h1, h2⟩]
  | succ k =>
    have e := rowOk_step (n := n) hk
    refine ⟨fun h1 => rowOk_no (k := k + 2) ?_, fun h1 => rowOk_no (k := k + 2) ?_, fun h0 h1 => rowOk_no (k := k + 2) ?_, fun h1 h2 h3 => ?_⟩
    · rw [e, decide_eq_false (p := 0 ≤ r[k + 1] ∧ r[k + 1] < n) (by omega)]; simp
    · rw [e, decide_eq_false (p := 0 ≤ r[k + 1] ∧ r[k + 1] < n) (by omega)]; simp
    · rw [e, decide_eq_false (p := r[k] < r[k + 1]) (by simpa using h1)]; simp
    · have h4 : r[k] < r[k + 1] := by simpa using h3 (by omega)
      rw [e, h, decide_eq_true (p := 0 ≤ r[k + 1] ∧ r[k + 1] < n) ⟨h1, h2⟩, decide_eq_true h4]; rfl

theorem mayRow_spec {p : Blocks} (n : Int) (a : Sl) (la : List Int) (h : Heap) (ha : Seq h p a 1 intv la) (hs : la.length ≤ 2 ^ 40) :
    Spec Try.prog wellspringref11_MayRow_id #[.int .i64 n, .slice a.ptr a.len a.cap] h fun v h' => v = .bool (rowOk n la) ∧ h' = h := by
  refine wellspringref11_MayRow_run n a ?_
  unfold wellspringref11_MayRow_m
  have hal := ha.len
  refine loop_inv (fun k : Nat => (k : Int)) (fun k h' => h' = h ∧ k ≤ la.length ∧ rowOk n (la.take k) = true) (fun k => la.length - k) 0 rfl ⟨rfl, by omega, by simp [rowOk, risesB]⟩ ?_
  rintro k h' ⟨rfl, hk, ht⟩
  refine br_dec (fun hlt => ?_) (fun hge => ?_)
  · have hk' : k < la.length := by omega
    obtain ⟨n1, n2, n3, n4⟩ := rowOk_next hk' ht
    refine ha.get1 k rfl hk' _ rfl ?_
    refine br_dec (fun h1 => ⟨by rw [n1 h1], rfl⟩) (fun h1 => ?_)
    refine br_dec (fun h2 => ⟨by rw [n2 h2], rfl⟩) (fun h2 => ?_)
    rw [wrap_small (k + 1) (by omega) (by omega), wrap_small (k - 1) (by omega) (by omega)]
    refine br_dec (fun h3 => ?_) (fun h3 => ?_)
    · refine ha.get1 (k - 1) (by omega) (by omega) _ rfl ?_
      refine br_dec (fun h4 => ⟨by rw [n3 (by omega) h4], rfl⟩) (fun h4 => ?_)
      exact ⟨k + 1, by simp, ⟨rfl, by omega, n4 (by omega) (by omega) (fun _ => by omega)⟩, by omega⟩
    · exact ⟨k + 1, by simp, ⟨rfl, by omega, n4 (by omega) (by omega) (fun _ => by omega)⟩, by omega⟩
  · rw [List.take_of_length_le (by omega)] at ht
    exact ⟨by rw [ht], rfl⟩

def rightB (n : Int) (ll : List (List Int)) : Bool := decide (0 ≤ n ∧ n ≤ 64) && ll.all (rowOk n)
theorem all_take {α : Type} {f : α → Bool} {l : List α} {k : Nat} (hk : k < l.length) (h : (l.take k).all f = true) : (l.take (k + 1)).all f = f l[k] := by
  rw [take_snoc _ _ hk, List.all_append, h]; simp
theorem all_no {α : Type} {f : α → Bool} {l : List α} {k : Nat} (hk : k < l.length) (h : f l[k] = false) : l.all f = false := by
  rw [List.all_eq_false]
  exact ⟨l[k], List.getElem_mem hk, by simp [h]⟩

theorem right_spec {p : Blocks} (n : Int) (a : Sl) (ll : List (List Int)) (rs : List Sl) (h : Heap) (ha : Seq2 h p a 1 intv ll rs) (hs : ll.length ≤ 2 ^ 40) (hss : ∀ l ∈ ll, l.length ≤ 2 ^ 40) :
    Spec Try.prog inact_right_id #[.int .i64 n, .slice a.ptr a.len a.cap] h fun v h' => v = .bool (rightB n ll) ∧ h' = h := by
  refine inact_right_run n a ?_
  unfold inact_right_m
  have hal := ha.slen
  refine join_cut (fun _ h' => h' = h ∧ 0 ≤ n ∧ n ≤ 64) ?_ ?_
  · refine br_dec (fun h1 => ⟨?_, rfl⟩) (fun h1 => br_dec (fun h2 => ⟨?_, rfl⟩) (fun h2 => ⟨rfl, by omega, by omega⟩))
    · rw [rightB, decide_eq_false (by omega)]; rfl
    · rw [rightB, decide_eq_false (by omega)]; rfl
  · rintro _ h' ⟨rfl, hn0, hn1⟩
    have hR : rightB n ll = ll.all (rowOk n) := by rw [rightB, decide_eq_true ⟨hn0, hn1⟩]; rfl
    refine loop_inv (fun k : Nat => (k : Int)) (fun k h0 => h0 = h' ∧ k ≤ ll.length ∧ (ll.take k).all (rowOk n) = true) (fun k => ll.length - k) 0 rfl ⟨rfl, by omega, by simp⟩ ?_
    rintro i h0 ⟨rfl, hi, hall⟩
    refine br_dec (fun hlt => ?_) (fun hge => ?_)
    · have hi' : i < ll.length := by omega
      refine ha.get i rfl hi' fun r hr _ => ?_
      have hrl := hr.len
      have hsm := hss _ (List.getElem_mem hi')
      have hbad : rowOk n ll[i] = false → rightB n ll = false := fun hb => by rw [hR]; exact all_no hi' hb
      refine loop_inv (fun k : Nat => (k : Int)) (fun k h2 => h2 = h0 ∧ k ≤ ll[i].length ∧ rowOk n (ll[i].take k) = true) (fun k => ll[i].length - k) 0 rfl ⟨rfl, by omega, by simp [rowOk, risesB]⟩ ?_
      rintro k h2 ⟨rfl, hk, ht⟩
      refine br_dec (fun hlt => ?_) (fun hge => ?_)
      · have hk' : k < ll[i].length := by omega
        obtain ⟨n1, n2, n3, n4⟩ := rowOk_next hk' ht
        refine hr.get1 k rfl hk' _ rfl ?_
        refine br_dec (fun h1 => ⟨by rw [hbad (n1 h1)], rfl⟩) (fun h1 => ?_)
        refine br_dec (fun h2 => ⟨by rw [hbad (n2 h2)], rfl⟩) (fun h2 => ?_)
        rw [wrap_small (k + 1) (by omega) (by omega), wrap_small (k - 1) (by omega) (by omega)]
        refine br_dec (fun h3 => ?_) (fun h3 => ?_)
        · refine hr.get1 (k - 1) (by omega) (by omega) _ rfl ?_
          refine br_dec (fun h4 => ⟨by rw [hbad (n3 (by omega) h4)], rfl⟩) (fun h4 => ?_)
          exact ⟨k + 1, by simp, ⟨rfl, by omega, n4 (by omega) (by omega) (fun _ => by omega)⟩, by omega⟩
        · exact ⟨k + 1, by simp, ⟨rfl, by omega, n4 (by omega) (by omega) (fun _ => by omega)⟩, by omega⟩
      · rw [List.take_of_length_le (by omega)] at ht
        rw [wrap_small (i + 1) (by omega) (by omega)]
        exact ⟨i + 1, by simp, ⟨rfl, by omega, by rw [all_take hi' hall, ht]⟩, by omega⟩
    · rw [List.take_of_length_le (by omega)] at hall
      exact ⟨by rw [hR, hall], rfl⟩

/-- The first place of a Bool; -1: none. -/
theorem index_bool_spec {p : Blocks} (a : Sl) (la : List Bool) (x : Bool) (h : Heap) (ha : Seq h p a 1 boolv la) (hs : la.length ≤ 2 ^ 40) :
    Spec Try.prog slices_Index_bool_bool_id #[.slice a.ptr a.len a.cap, .bool x] h fun v h' => ∃ r : Int, v = .int .i64 r ∧ (0 ≤ r ↔ x ∈ la) ∧ h' = h := by
  refine slices_Index_bool_bool_run a x ?_
  unfold slices_Index_bool_bool_m
  have hal := ha.len
  refine loop_inv (fun k : Nat => (k : Int)) (fun k h' => h' = h ∧ k ≤ la.length ∧ x ∉ la.take k) (fun k => la.length - k) 0 rfl ⟨rfl, by omega, by simp⟩ ?_
  rintro k h' ⟨rfl, hk, ht⟩
  refine br_dec (fun hlt => ?_) (fun hge => ?_)
  · have hk' : k < la.length := by omega
    refine ha.get1 k rfl hk' _ rfl ?_
    refine br_b (fun heq => ⟨_, rfl, ⟨fun _ => ?_, fun _ => by omega⟩, rfl⟩) (fun hne => ?_)
    · rw [eq_of_beq heq]; exact List.getElem_mem hk'
    · rw [wrap_small _ (by omega) (by omega)]
      refine ⟨k + 1, by simp, ⟨rfl, by omega, ?_⟩, by omega⟩
      rw [take_snoc _ _ hk']
      simp only [List.mem_append, List.mem_singleton, not_or]
      exact ⟨ht, fun e => by rw [e] at hne; simp at hne⟩
  · rw [List.take_of_length_le (by omega)] at ht
    exact ⟨_, rfl, ⟨fun h => by omega, fun h => absurd h ht⟩, rfl⟩

theorem contains_bool_spec {p : Blocks} (a : Sl) (la : List Bool) (x : Bool) (h : Heap) (ha : Seq h p a 1 boolv la) (hs : la.length ≤ 2 ^ 40) :
    Spec Try.prog slices_Contains_bool_bool_id #[.slice a.ptr a.len a.cap, .bool x] h fun v h' => v = .bool (decide (x ∈ la)) ∧ h' = h := by
  refine slices_Contains_bool_bool_run a x ?_
  unfold slices_Contains_bool_bool_m
  refine (index_bool_spec a la x h ha hs).mono ?_
  rintro v h' ⟨r, rfl, hr, rfl⟩
  refine ⟨r, rfl, ?_, rfl⟩
  exact congrArg Value.bool (decide_eq_decide.2 hr)
end Go.Proofs.Ytlefjaiignpnaaa

namespace Go.Proofs.Ytlefjaiignpnaaa
open Go Go.Vc Go.Proofs Wl
set_option maxRecDepth 100000

theorem filter_snoc {α : Type} {f : α → Bool} {l : List α} {k : Nat} (hk : k < l.length) : (l.take (k + 1)).filter f = if f l[k] then (l.take k).filter f ++ [l[k]] else (l.take k).filter f := by
  rw [take_snoc _ _ hk, List.filter_append]
  by_cases h : f l[k] = true <;> simp [h]

theorem single_spec {p q : Blocks} (pa : Addr) (o r : Sl) (op : List Bool) (row : List Int) (h : Heap) (hp : cellOf h (pa.add 1) = some (.slice o.ptr o.len o.cap)) (ho : Seq h p o 1 boolv op) (hr : Seq h q r 1 intv row)
    (hin : ∀ c ∈ row, 0 ≤ c ∧ c < op.length) (hs : row.length ≤ 2 ^ 40) :
    Spec Try.prog inact_planner_single_id #[.pointer (some pa), .slice r.ptr r.len r.cap] h fun v h' =>
      v = .tuple #[.int .i64 ((openCols op row).getLast?.getD 0), .bool ((openCols op row).length == 1)] ∧ h' = h := by
  refine inact_planner_single_run (some pa) r ?_
  unfold inact_planner_single_m
  have hrl := hr.len
  refine loop_inv (fun k : Nat => ((openCols op (row.take k)).getLast?.getD 0, ((openCols op (row.take k)).length : Int), (k : Int))) (fun k h' => h' = h ∧ k ≤ row.length) (fun k => row.length - k) 0 rfl ⟨rfl, by omega⟩ ?_
  rintro k h' ⟨rfl, hk⟩
  dsimp only
  refine br_dec (fun hlt => ?_) (fun hge => ?_)
  · have hk' : k < row.length := by omega
    have hc := hin _ (List.getElem_mem hk')
    refine hr.get1 k rfl hk' _ rfl ?_
    refine ⟨pa, rfl, o, hp, ?_⟩
    have hlt2 : row[k].toNat < op.length := by omega
    refine ho.get1 row[k].toNat (by omega) hlt2 _ rfl ?_
    have hopn : opn op row[k] = op[row[k].toNat] := by simp [opn, List.getD_eq_getElem?_getD, List.getElem?_eq_getElem hlt2]
    have hsn := filter_snoc (f := opn op) hk'
    have hcl : (openCols op (row.take k)).length ≤ row.length := Nat.le_trans (List.length_filter_le _ _) (by rw [List.length_take]; omega)
    rw [wrap_small (k + 1) (by omega) (by omega), wrap_small _ (by omega) (by omega)]
    refine br_b (fun hb => ?_) (fun hb => ?_)
    · refine ⟨k + 1, ?_, ⟨rfl, by omega⟩, by omega⟩
      have e : openCols op (row.take (k + 1)) = openCols op (row.take k) ++ [row[k]] := by rw [openCols, hsn, hopn, hb]; rfl
      simp [e]
    · refine ⟨k + 1, ?_, ⟨rfl, by omega⟩, by omega⟩
      have e : openCols op (row.take (k + 1)) = openCols op (row.take k) := by rw [openCols, hsn, hopn, hb]; rfl
      simp [e]
  · have e : row.take k = row := List.take_of_length_le (by omega)
    refine ⟨?_, rfl⟩
    simp only [e]
    congr 4
    congr 1
    rw [Bool.eq_iff_iff]; simp; omega

/-- A planner in memory, to be read. -/
structure PlanR (h : Heap) (p : Blocks) (a : Addr) (l o u : Sl) (rows : List (List Int)) (rs : List Sl) (op us : List Bool) : Prop where
  c0 : cellOf h a = some (.slice l.ptr l.len l.cap)
  c1 : cellOf h (a.add 1) = some (.slice o.ptr o.len o.cap)
  c2 : cellOf h (a.add 2) = some (.slice u.ptr u.len u.cap)
  blk : p a.block
  sRows : Seq2 h p l 1 intv rows rs
  sOp : Seq h p o 1 boolv op
  sUs : Seq h p u 1 boolv us
  ulen : us.length = rows.length
  cols : ∀ r ∈ rows, ∀ c ∈ r, 0 ≤ c ∧ c < op.length
  short : ∀ r ∈ rows, r.length ≤ 64
theorem PlanR.pres {h h' : Heap} {p : Blocks} {a : Addr} {l o u : Sl} {rows : List (List Int)} {rs : List Sl} {op us : List Bool} (hp : PlanR h p a l o u rows rs op us) (k : Pres p h h') : PlanR h' p a l o u rows rs op us := by
  have add_blk : ∀ n, (a.add n).block = a.block := fun n => by unfold Addr.add; split <;> rfl
  exact ⟨k.cell hp.blk hp.c0, k.cell (by rw [add_blk]; exact hp.blk) hp.c1, k.cell (by rw [add_blk]; exact hp.blk) hp.c2, hp.blk, hp.sRows.pres k, hp.sOp.pres k, hp.sUs.pres k, hp.ulen, hp.cols, hp.short⟩

theorem step_spec {p : Blocks} (a : Addr) (l o u : Sl) (rows : List (List Int)) (rs : List Sl) (op us : List Bool) (h : Heap) (hp : PlanR h p a l o u rows rs op us) (hs : rows.length ≤ 2 ^ 40) :
    Spec Try.prog inact_planner_step_id #[.pointer (some a)] h fun v h' => Pres (fun _ => True) h h' ∧
      v = match stepL rows op us with
        | some i => .tuple #[.agg #[.int .i64 i, .int .i64 (colOf rows op i)], .bool true]
        | none => .tuple #[.agg #[.int .i64 0, .int .i64 0], .bool false] := by
  refine inact_planner_step_run (some a) ?_
  unfold inact_planner_step_m
  refine run_alloc C_ok rfl fun b h1 hb hbox hpres hsz => ?_
  have hp1 := hp.pres (hpres.mono fun _ _ _ => trivial)
  refine ⟨a, rfl, l, hp1.c0, ?_⟩
  have hll := hp.sRows.slen
  refine loop_inv (fun k : Nat => (k : Int)) (fun k h' => h' = h1 ∧ k ≤ rows.length ∧ ∀ j, j < k → tells rows op us j = false) (fun k => rows.length - k) 0 rfl ⟨rfl, by omega, fun j hj => by omega⟩ ?_
  rintro k h' ⟨rfl, hk, ht⟩
  refine br_dec (fun hlt => ?_) (fun hge => ?_)
  · have hk' : k < rows.length := by omega
    refine hp1.sRows.get k rfl hk' fun r hr _ => ?_
    refine ⟨a, rfl, u, hp1.c2, ?_⟩
    refine hp1.sUs.get1 k rfl (by rw [hp.ulen]; exact hk') _ rfl ?_
    have hu : us.getD k false = us[k]'(by rw [hp.ulen]; exact hk') := by rw [List.getD_eq_getElem?_getD, List.getElem?_eq_getElem]; rfl
    have hrow : rows.getD k [] = rows[k] := by rw [List.getD_eq_getElem?_getD, List.getElem?_eq_getElem hk']; rfl
    rw [wrap_small _ (by omega) (by omega)]
    refine br_b (fun hb1 => ?_) (fun hb1 => ?_)
    · refine ⟨k + 1, by simp, ⟨rfl, by omega, fun j hj => ?_⟩, by omega⟩
      rcases Nat.lt_succ_iff_lt_or_eq.1 hj with hj | rfl
      · exact ht j hj
      · simp only [tells, hu, hb1]; rfl
    · refine (single_spec a o r op rows[k] h' hp1.c1 hp1.sOp hr (hp.cols _ (List.getElem_mem hk')) (Nat.le_trans (hp.short _ (List.getElem_mem hk')) (by omega))).mono ?_
      rintro v h2 ⟨rfl, rfl⟩
      refine ⟨(_, _), rfl, ?_⟩
      have htell : tells rows op us k = ((openCols op rows[k]).length == 1) := by simp only [tells, hu, hb1, hrow]; rfl
      refine br_b (fun hb2 => ?_) (fun hb2 => ?_)
      · have hb2' : tells rows op us k = true := htell.trans hb2
        refine run_store0 C_ok hbox rfl _ rfl rfl rfl (Nat.le_refl _) fun h3 hbox3 hp3 hsz3 => ?_
        refine ⟨(_, _), hbox3.cells0 _ rfl, hpres.then hp3 (fun b' hb' _ => by omega), ?_⟩
        have hcol : colOf rows op k = (openCols op rows[k]).getLast?.getD 0 := by unfold colOf; rw [hrow]
        rw [stepL, find_some hk' ht hb2']
        show _ = Value.tuple #[.agg #[.int .i64 k, .int .i64 (colOf rows op k)], .bool true]
        rw [hcol]; rfl
      · have hb2' : tells rows op us k = false := htell.trans hb2
        refine ⟨k + 1, by simp, ⟨rfl, by omega, fun j hj => ?_⟩, by omega⟩
        rcases Nat.lt_succ_iff_lt_or_eq.1 hj with hj | rfl
        · exact ht j hj
        · exact hb2'
  · refine run_store0 C_ok hbox rfl _ rfl rfl rfl (Nat.le_refl _) fun h3 hbox3 hp3 hsz3 => ?_
    refine ⟨(_, _), hbox3.cells0 _ rfl, hpres.then hp3 (fun b' hb' _ => by omega), ?_⟩
    rw [stepL, find_none (fun j hj => ht j (by omega))]

theorem getD_set (l : List Int) (i j : Nat) (x : Int) : (l.set i x).getD j 0 = if i = j ∧ j < l.length then x else l.getD j 0 := by
  simp only [List.getD_eq_getElem?_getD, List.getElem?_set]
  by_cases h : i = j
  · subst h
    by_cases h2 : i < l.length <;> simp [h2]
  · simp [h]
theorem getD_lt {l : List Int} {i : Nat} (h : i < l.length) : l.getD i 0 = l[i] := by rw [List.getD_eq_getElem?_getD, List.getElem?_eq_getElem h]; rfl
theorem getDb_lt {l : List Bool} {i : Nat} (h : i < l.length) : l.getD i false = l[i] := by rw [List.getD_eq_getElem?_getD, List.getElem?_eq_getElem h]; rfl
theorem best_lt (op : List Bool) (cs : List Int) : ∀ k, -1 ≤ bestL op cs k ∧ bestL op cs k < k
  | 0 => by simp [bestL]
  | k + 1 => by
    have := best_lt op cs k
    unfold bestL
    split <;> omega

set_option maxHeartbeats 4000000 in
theorem most_spec {p : Blocks} (a : Addr) (l o u : Sl) (rows : List (List Int)) (rs : List Sl) (op us : List Bool) (h : Heap) (hp : PlanR h p a l o u rows rs op us) (hs : rows.length ≤ 2 ^ 30) (hos : op.length ≤ 2 ^ 30) :
    Spec Try.prog inact_planner_most_id #[.pointer (some a)] h fun v h' => Pres (fun _ => True) h h' ∧ v = .int .i64 (mostL rows op us) := by
  refine inact_planner_most_run (some a) ?_
  unfold inact_planner_most_m
  refine ⟨a, rfl, o, hp.c1, ?_⟩
  have hol := hp.sOp.len
  refine run_make (f := intv) C_ok ⟨_, _, rfl, rfl, rfl, rfl, rfl, rfl⟩ (by decide) 0 rfl rfl op.length op.length (by omega) (by omega) (Nat.le_refl _) (by omega) fun s h1 hown hsp hsc hpres hsz => ?_
  have hp1 := hp.pres (hpres.mono fun _ _ _ => trivial)
  refine ⟨a, rfl, l, hp1.c0, ?_⟩
  have hll := hp.sRows.slen
  have hfresh : ∀ b, s.on b → b = h.size := by rintro b ⟨o', ho'⟩; rw [hsp] at ho'; cases ho'; rfl
  have hgl : ∀ k, ((fun _ r => r : Nat → List Int → List Int) k (rows.getD k [])).length ≤ 64 := fun k => by
    show (rows.getD k []).length ≤ 64
    by_cases hk : k < rows.length
    · rw [List.getD_eq_getElem?_getD, List.getElem?_eq_getElem hk]; exact hp.short _ (List.getElem_mem hk)
    · rw [List.getD_eq_getElem?_getD, List.getElem?_eq_none (by omega)]; simp
  let cn := cntRows (fun _ r => r) rows us (List.replicate op.length 0)
  have hcl : ∀ k, (cn k).length = op.length := fun k => by rw [cnt_length]; simp
  have hcn : ∀ k, ∀ x ∈ cn k, 0 ≤ x ∧ x ≤ 64 * k := fun k x hx => cnt_le (fun _ r => r) hgl k x hx
  refine loop_inv (fun k : Nat => (k : Int)) (fun k h' => Pres (fun b => b < h.size) h h' ∧ k ≤ rows.length ∧ Own h' T_int s 1 intv (cn k)) (fun k => rows.length - k) 0 rfl ⟨hpres.mono fun _ _ _ => trivial, by omega, hown⟩ ?_
  rintro i h2 ⟨hp2, hi, hown2⟩
  have hpl2 : PlanR h2 p a l o u rows rs op us := hp.pres (hp2.mono fun b hb _ => hb)
  refine br_dec (fun hlt => ?_) (fun hge => ?_)
  · have hi' : i < rows.length := by omega
    have hrow : rows.getD i [] = rows[i] := by rw [List.getD_eq_getElem?_getD, List.getElem?_eq_getElem hi']; rfl
    have hu : us.getD i false = us[i]'(by rw [hp.ulen]; exact hi') := getDb_lt _
    refine hpl2.sRows.get i rfl hi' fun r hr hri => ?_
    have hrl := hr.len
    have hshort := hp.short _ (List.getElem_mem hi')
    refine loop_inv (fun k : Nat => (k : Int)) (fun k h' => Pres (fun b => b < h.size) h h' ∧ k ≤ rows[i].length ∧ Own h' T_int s 1 intv (if us.getD i false then cn i else addRow (cn i) (rows[i].take k))) (fun k => rows[i].length - k) 0 rfl
      ⟨hp2, by omega, by simpa [addRow] using hown2⟩ ?_
    rintro j h3 ⟨hp3, hj, hown3⟩
    have hpl3 : PlanR h3 p a l o u rows rs op us := hp.pres (hp3.mono fun b hb _ => hb)
    refine br_dec (fun hlt => ?_) (fun hge => ?_)
    · have hj' : j < rows[i].length := by omega
      have hr3 := hpl3.sRows.row i r _ hri (List.getElem?_eq_getElem hi')
      have hc := hp.cols _ (List.getElem_mem hi') _ (List.getElem_mem hj')
      refine hr3.get1 j rfl hj' _ rfl ?_
      refine ⟨a, rfl, u, hpl3.c2, ?_⟩
      refine hpl3.sUs.get1 i rfl (by rw [hp.ulen]; exact hi') _ rfl ?_
      rw [wrap_small (j + 1) (by omega) (by omega)]
      refine br_not (fun hb => ?_) (fun hb => ?_)
      · rw [hu, hb] at hown3
        simp only [Bool.false_eq_true, if_false] at hown3
        have hlen : (addRow (cn i) (rows[i].take j)).length = op.length := by rw [addRow_length, hcl]
        have hlt2 : rows[i][j].toNat < (addRow (cn i) (rows[i].take j)).length := by rw [hlen]; omega
        have hbd := addRow_le (r := rows[i].take j) (hcn i) _ (List.getElem_mem hlt2)
        have hjl : (rows[i].take j).length ≤ 64 := by rw [List.length_take]; omega
        have hs3 : Seq h3 (fun _ => True) s 1 intv (addRow (cn i) (rows[i].take j)) := hown3.seq (fun _ => rfl) (fun _ _ => trivial)
        refine hs3.get1 rows[i][j].toNat (by omega) hlt2 _ rfl ?_
        rw [wrap_small _ (by omega) (by omega)]
        refine hown3.set C_ok (fun _ => rfl) rfl rows[i][j].toNat (by omega) hlt2 _ rfl rfl rfl fun h4 hown4 hp4 hsz4 => ?_
        refine ⟨j + 1, by simp, ⟨hp3.then hp4 (fun b hb _ => fun hon => by have := hfresh b hon; omega), by omega, ?_⟩, by omega⟩
        rw [hu, hb]
        simp only [Bool.false_eq_true, if_false]
        rw [take_snoc _ _ hj', addRow_snoc, getD_lt hlt2]
        exact hown4
      · refine ⟨j + 1, by simp, ⟨hp3, by omega, ?_⟩, by omega⟩
        rw [hu, hb] at hown3 ⊢
        exact hown3
    · rw [wrap_small (i + 1) (by omega) (by omega)]
      rw [List.take_of_length_le (by omega)] at hown3
      refine ⟨i + 1, by simp, ⟨hp3, by omega, ?_⟩, by omega⟩
      have : cn (i + 1) = if us.getD i false then cn i else addRow (cn i) rows[i] := by
        show cntRows _ _ _ _ (i + 1) = _
        rw [cntRows]
        simp only [hrow]
        rfl
      rw [this]; exact hown3
  · have hie : i = rows.length := by omega
    subst hie
    refine ⟨a, rfl, o, hpl2.c1, ?_⟩
    have hs2 : Seq h2 (fun _ => True) s 1 intv (cn rows.length) := hown2.seq (fun _ => rfl) (fun _ _ => trivial)
    have hcl2 := hcl rows.length
    refine loop_inv (fun k : Nat => (bestL op (cn rows.length) k, (k : Int))) (fun k h' => h' = h2 ∧ k ≤ op.length) (fun k => op.length - k) 0 rfl ⟨rfl, by omega⟩ ?_
    rintro k h3 ⟨rfl, hk⟩
    dsimp only
    have hbl := best_lt op (cn rows.length) k
    refine br_dec (fun hlt => ?_) (fun hge => ?_)
    · have hk' : k < op.length := by omega
      refine hpl2.sOp.get1 k rfl hk' _ rfl ?_
      rw [wrap_small (k + 1) (by omega) (by omega)]
      have hok : op.getD k false = op[k] := getDb_lt hk'
      refine br_b (fun hb => ?_) (fun hb => ?_)
      · refine br_dec (fun hneg => ?_) (fun hnn => ?_)
        · refine ⟨k + 1, ?_, ⟨rfl, by omega⟩, by omega⟩
          rw [bestL, if_pos (by rw [hok, hb, decide_eq_true hneg]; rfl)]; rfl
        · refine hs2.get1 k rfl (by omega) _ rfl ?_
          refine hs2.get1 (bestL op (cn rows.length) k).toNat (by omega) (by omega) _ rfl ?_
          have e1 : (cn rows.length).getD k 0 = (cn rows.length)[k] := getD_lt (by omega)
          have e2 : (cn rows.length).getD (bestL op (cn rows.length) k).toNat 0 = (cn rows.length)[(bestL op (cn rows.length) k).toNat] := getD_lt (by omega)
          refine br_dec (fun hgt => ?_) (fun hle => ?_)
          · refine ⟨k + 1, ?_, ⟨rfl, by omega⟩, by omega⟩
            rw [bestL, if_pos (by rw [hok, hb, e1, e2, decide_eq_true hgt]; simp)]; rfl
          · refine ⟨k + 1, ?_, ⟨rfl, by omega⟩, by omega⟩
            rw [bestL, if_neg (by rw [hok, hb, e1, e2, decide_eq_false hle, decide_eq_false hnn]; simp)]; rfl
      · refine ⟨k + 1, ?_, ⟨rfl, by omega⟩, by omega⟩
        rw [bestL, if_neg (by rw [hok, hb]; simp)]; rfl
    · have hke : k = op.length := by omega
      subst hke
      exact ⟨hp2.mono fun b hb _ => hb, rfl⟩
end Go.Proofs.Ytlefjaiignpnaaa

namespace Go.Proofs.Ytlefjaiignpnaaa
open Go Go.Vc Go.Proofs Wl
set_option maxRecDepth 100000
def stepv (p : Int × Int) : List Value := [.int .i64 p.1, .int .i64 p.2]
theorem one_int : ∀ x, ∀ c ∈ intv x, c.oneCell' = true := by intro x c hc; simp only [intv, List.mem_singleton] at hc; subst hc; rfl
theorem one_bool : ∀ x, ∀ c ∈ boolv x, c.oneCell' = true := by intro x c hc; simp only [boolv, List.mem_singleton] at hc; subst hc; rfl
theorem one_step : ∀ x, ∀ c ∈ stepv x, c.oneCell' = true := by
  intro x c hc; simp only [stepv, List.mem_cons, List.not_mem_nil, or_false] at hc
  rcases hc with rfl | rfl <;> rfl
def plOut (n : Int) (rows : List (List Int)) : List (Int × Int) × List Int × List Int :=
  if rightB n rows then ((planL n.toNat rows).steps, (planL n.toNat rows).dead, leftL (planL n.toNat rows).used rows.length) else ([], [], [])
/-- A plan handed out. -/
def PlanIs (h : Heap) (v : Value) (ok : Bool) (st : List (Int × Int)) (dd lf : List Int) : Prop :=
  ∃ s d f : Sl, v = .tuple #[.agg #[.slice s.ptr s.len s.cap, .slice d.ptr d.len d.cap, .slice f.ptr f.len f.cap], .bool ok] ∧
    Seq h (fun b => b < h.size) s 2 stepv st ∧ Seq h (fun b => b < h.size) d 1 intv dd ∧ Seq h (fun b => b < h.size) f 1 intv lf
theorem right_n {n : Int} {rows : List (List Int)} (h : rightB n rows = true) : 0 ≤ n ∧ n ≤ 64 ∧ ∀ r ∈ rows, rowOk n r = true := by
  simp only [rightB, Bool.and_eq_true, decide_eq_true_eq, List.all_eq_true] at h
  exact ⟨h.1.1, h.1.2, h.2⟩
theorem row_cols {n : Int} {r : List Int} (h : rowOk n r = true) : ∀ c ∈ r, 0 ≤ c ∧ c < n := by
  simp only [rowOk, Bool.and_eq_true, List.all_eq_true, decide_eq_true_eq] at h
  exact h.1
theorem rises_len : ∀ {r : List Int} {a n : Int}, risesB r = true → (∀ c ∈ r, a ≤ c ∧ c < n) → (r.length : Int) ≤ max 0 (n - a)
  | [], a, n, _, _ => by simp; omega
  | [x], a, n, _, h => by have := h x (by simp); simp; omega
  | x :: y :: t, a, n, hr, h => by
    simp only [risesB, Bool.and_eq_true, decide_eq_true_eq] at hr
    have hx := h x (by simp)
    have hy := h y (by simp)
    have hle : ∀ (l : List Int) (z : Int), risesB (z :: l) = true → ∀ c ∈ l, z < c := by
      intro l
      induction l with
      | nil => intro z _ c hc; simp at hc
      | cons w t ih =>
        intro z hz c hc
        simp only [risesB, Bool.and_eq_true, decide_eq_true_eq] at hz
        rcases List.mem_cons.1 hc with rfl | hc
        · exact hz.1
        · have := ih w hz.2 c hc; omega
    have := rises_len (r := y :: t) (a := x + 1) (n := n) hr.2 fun c hc => ⟨by
      rcases List.mem_cons.1 hc with rfl | hc
      · omega
      · have := hle t y hr.2 c hc; omega, (h c (by simp only [List.mem_cons] at hc ⊢; exact .inr hc)).2⟩
    simp only [List.length_cons] at this ⊢
    omega
theorem row_short {n : Int} {r : List Int} (h : rowOk n r = true) (hn : n ≤ 64) : r.length ≤ 64 := by
  have h1 := row_cols h
  simp only [rowOk, Bool.and_eq_true] at h
  have := rises_len (a := 0) h.2 h1
  omega
theorem set_fill (n k : Nat) (h : k < n) : (List.replicate k true ++ List.replicate (n - k) false).set k true = List.replicate (k + 1) true ++ List.replicate (n - (k + 1)) false := by
  have e : n - k = (n - (k + 1)) + 1 := by omega
  rw [List.set_append_right _ _ (by simp), e, List.replicate_succ]
  simp only [List.length_replicate, Nat.sub_self, List.set_cons_zero]
  rw [List.replicate_succ' (n := k)]; simp

theorem planR_of {h h0 : Heap} {c : Nat → Nat} {a : Addr} {l o u : Sl} {rows : List (List Int)} {rs : List Sl} {op us : List Bool} (hs : Seq2 h0 (fun b => b < h0.size) l 1 intv rows rs) (hb : Base h0 h c) (hx : BoxC h c 2 a T_inact_planner [.slice l.ptr l.len l.cap, .slice o.ptr o.len o.cap, .slice u.ptr u.len u.cap])
    (ho : OwnC h c 3 T_bool o 1 boolv op) (hu : OwnC h c 4 T_bool u 1 boolv us) (hul : us.length = rows.length) (hol : op.length ≤ 64) (hr : ∀ r ∈ rows, rowOk op.length r = true) : PlanR h (fun b => b < h.size) a l o u rows rs op us :=
  ⟨hx.box.cell0 rfl, hx.box.cell rfl, hx.box.cell rfl, hx.box.lt, (hs.pres hb.pres).mono fun b hb' => Nat.lt_of_lt_of_le hb' hb.pres.1, ho.seqB fun _ => rfl, hu.seqB fun _ => rfl, hul, fun r hr' => row_cols (hr r hr'), fun r hr' => row_short (hr r hr') (by omega)⟩

set_option maxHeartbeats 4000000 in
theorem plan_spec (n : Int) (l : Sl) (rows : List (List Int)) (rs : List Sl) (h : Heap) (hl : Seq2 h (fun b => b < h.size) l 1 intv rows rs) (hs : rows.length ≤ 2 ^ 30) (hss : ∀ r ∈ rows, r.length ≤ 2 ^ 40) :
    Spec Try.prog inact_Plan_id #[.int .i64 n, .slice l.ptr l.len l.cap] h fun v h' => Pres (fun b => b < h.size) h h' ∧ PlanIs h' v (rightB n rows) (plOut n rows).1 (plOut n rows).2.1 (plOut n rows).2.2 := by
  refine inact_Plan_run n l ?_
  unfold inact_Plan_m
  have hll := hl.slen
  refine runC_alloc C_ok (Base.refl h) 1 rfl fun a1 h1 ha1 hp1 => ?_
  have hb1 := (Base.refl h).keep (m := 1) hp1 (by decide)
  refine (right_spec n l rows rs h1 (hl.pres hb1.pres) (by omega) hss).mono ?_
  rintro v h2 ⟨rfl, rfl⟩
  refine ⟨_, rfl, ?_⟩
  refine br_not (fun hr => ?_) (fun hr => ?_)
  · refine ha1.store0 C_ok rfl _ rfl rfl rfl (Nat.le_refl _) fun h3 ha3 hp3 => ?_
    refine ⟨(⟨none, 0, 0⟩, ⟨none, 0, 0⟩, ⟨none, 0, 0⟩), ha3.box.cells0 _ rfl, (hb1.keep (m := 1) hp3 (by decide)).pres, ?_⟩
    refine ⟨⟨none, 0, 0⟩, ⟨none, 0, 0⟩, ⟨none, 0, 0⟩, by rw [hr], ?_⟩
    simp only [plOut, hr, Bool.false_eq_true, if_false]
    exact ⟨Seq.nil _ _ _ _ _ _, Seq.nil _ _ _ _ _ _, Seq.nil _ _ _ _ _ _⟩
  · obtain ⟨hn0, hn1, hrows⟩ := right_n hr
    obtain ⟨N, rfl⟩ : ∃ N : Nat, n = N := ⟨n.toNat, by omega⟩
    have hN : N ≤ 64 := by omega
    refine join_cut (fun s h' => ∃ c a o u, s = some a ∧ Base h h' c ∧ BoxC h' c 1 a1 T_api_Plan [.slice none 0 0, .slice none 0 0, .slice none 0 0] ∧ BoxC h' c 2 a T_inact_planner [.slice l.ptr l.len l.cap, .slice o.ptr o.len o.cap, .slice u.ptr u.len u.cap] ∧
      OwnC h' c 3 T_bool o 1 boolv (List.replicate N false) ∧ OwnC h' c 4 T_bool u 1 boolv (List.replicate rows.length false)) ⟨?_, ?_⟩ ?_
    · refine runC_make C_ok hb1 3 boolv ⟨_, _, rfl, rfl, rfl, rfl, rfl, rfl⟩ (by decide) false rfl rfl N rfl rfl (by omega) fun o h3 ho hp3 => ?_
      refine ⟨trivial, ?_⟩
      refine runC_make C_ok (hb1.keep (m := 3) hp3 (by decide)) 4 boolv ⟨_, _, rfl, rfl, rfl, rfl, rfl, rfl⟩ (by decide) false rfl rfl rows.length (by omega) (by omega) (by omega) fun u h4 hu hp4 => ?_
      refine ⟨trivial, ?_⟩
      refine runC_box _ ((hb1.keep (m := 3) hp3 (by decide)).keep (m := 4) hp4 (by decide)) 2 fun a h5 ha hp5 => ?_
      exact ⟨trivial, _, a, o, u, rfl, ((hb1.keep hp3 (by decide)).keep hp4 (by decide)).keep hp5 (by decide), ((ha1.keep hp3 (by decide)).keep hp4 (by decide)).keep hp5 (by decide), ha, (ho.keep hp4 (by decide)).keep hp5 (by decide), hu.keep hp5 (by decide)⟩
    · refine runC_make C_ok hb1 4 boolv ⟨_, _, rfl, rfl, rfl, rfl, rfl, rfl⟩ (by decide) false rfl rfl rows.length (by omega) (by omega) (by omega) fun u h3 hu hp3 => ?_
      refine ⟨trivial, ?_⟩
      refine runC_make C_ok (hb1.keep (m := 4) hp3 (by decide)) 3 boolv ⟨_, _, rfl, rfl, rfl, rfl, rfl, rfl⟩ (by decide) false rfl rfl N rfl rfl (by omega) fun o h4 ho hp4 => ?_
      refine ⟨trivial, ?_⟩
      refine runC_box _ ((hb1.keep (m := 4) hp3 (by decide)).keep (m := 3) hp4 (by decide)) 2 fun a h5 ha hp5 => ?_
      exact ⟨trivial, _, a, o, u, rfl, ((hb1.keep hp3 (by decide)).keep hp4 (by decide)).keep hp5 (by decide), ((ha1.keep hp3 (by decide)).keep hp4 (by decide)).keep hp5 (by decide), ha, ho.keep hp5 (by decide), (hu.keep hp4 (by decide)).keep hp5 (by decide)⟩
    · rintro s h3 ⟨c, a, o, u, rfl, hb3, hr3, ha3, ho3, hu3⟩
      refine ⟨a, rfl, o, ha3.box.cell rfl, ?_⟩
      have hol : o.len = N := by rw [ho3.own.len]; simp
      refine loop_inv (fun t : Nat × (Nat → Nat) => (t.1 : Int)) (fun t h' => t.1 ≤ N ∧ Base h h' t.2 ∧ BoxC h' t.2 1 a1 T_api_Plan [.slice none 0 0, .slice none 0 0, .slice none 0 0] ∧ BoxC h' t.2 2 a T_inact_planner [.slice l.ptr l.len l.cap, .slice o.ptr o.len o.cap, .slice u.ptr u.len u.cap] ∧
        OwnC h' t.2 3 T_bool o 1 boolv (List.replicate t.1 true ++ List.replicate (N - t.1) false) ∧ OwnC h' t.2 4 T_bool u 1 boolv (List.replicate rows.length false)) (fun t => N - t.1) (0, c) rfl ⟨by simp, hb3, hr3, ha3, by simpa using ho3, hu3⟩ ?_
      rintro ⟨k, c⟩ h4 ⟨hk, hb4, hr4, ha4, ho4, hu4⟩
      dsimp only at *
      refine br_dec (fun hlt => ?_) (fun hge => ?_)
      · have hk' : k < N := by omega
        refine ⟨a, rfl, o, ha4.box.cell rfl, ?_⟩
        refine ho4.set C_ok (fun _ => rfl) rfl k rfl (by simp; omega) true rfl rfl rfl fun h5 ho5 hp5 => ?_
        rw [wrap_small _ (by omega) (by omega)]
        rw [set_fill _ _ hk'] at ho5
        exact ⟨(k + 1, _), by simp, ⟨by simp; omega, hb4.keep hp5 (by decide), hr4.keep hp5 (by decide), ha4.keep hp5 (by decide), ho5, hu4.keep hp5 (by decide)⟩, by simp; omega⟩
      · have hkN : k = N := by omega
        subst hkN
        simp only [Nat.sub_self, List.replicate_zero, List.append_nil] at ho4
        refine runC_alloc C_ok hb4 5 rfl fun ap h5 hap hp5 => ?_
        have hb5 := hb4.keep (m := 5) hp5 (by decide)
        have hr5 := hr4.keep (m := 5) hp5 (by decide)
        have ha5 := ha4.keep (m := 5) hp5 (by decide)
        have ho5 := ho4.keep (m := 5) hp5 (by decide)
        have hu5 := hu4.keep (m := 5) hp5 (by decide)
        clear hb4 hr4 ha4 ho4 hu4 hb3 hr3 ha3 ho3 hu3
        generalize grow c h4.size 5 = c5 at *
        refine loop_inv (τ := Nat × List Bool × List Bool × (List (Int × Int)) × List Int × (Nat → Nat) × Sl × Sl) (fun _ => ())
          (fun ⟨f, op, us, st, dd, c, ss, ds⟩ h' => op.length = k ∧ us.length = rows.length ∧ op.count true ≤ f ∧ f ≤ k ∧ st.length ≤ k - f ∧ dd.length ≤ k - f ∧
            (∃ r, planRun rows f op us = r ∧ planL k rows = ⟨st ++ r.steps, dd ++ r.dead, r.used⟩) ∧ Base h h' c ∧
            BoxC h' c 1 a1 T_api_Plan [.slice none 0 0, .slice none 0 0, .slice none 0 0] ∧ BoxC h' c 2 a T_inact_planner [.slice l.ptr l.len l.cap, .slice o.ptr o.len o.cap, .slice u.ptr u.len u.cap] ∧
            OwnC h' c 3 T_bool o 1 boolv op ∧ OwnC h' c 4 T_bool u 1 boolv us ∧
            BoxC h' c 5 ap T_api_Plan [.slice ss.ptr ss.len ss.cap, .slice ds.ptr ds.len ds.cap, .slice none 0 0] ∧ OwnC h' c 6 T_api_Step ss 2 stepv st ∧ OwnC h' c 7 T_int ds 1 intv dd)
          (fun t => t.1) (k, List.replicate k true, List.replicate rows.length false, [], [], c5, ⟨none, 0, 0⟩, ⟨none, 0, 0⟩) rfl
          ⟨by simp, by simp, by simp, by simp, by simp, by simp, ⟨_, rfl, by simp [planL]⟩, hb5, hr5, ha5, ho5, hu5, hap, OwnC.nil _ _ _ _ _ _, OwnC.nil _ _ _ _ _ _⟩ ?_
        rintro ⟨f, op, us, st, dd, c, ss, ds⟩ h6 ⟨hopl, husl, hcnt, hfk, hstl, hddl, ⟨r, hr1, hr2⟩, hb6, hr6, ha6, ho6, hu6, hap6, hss6, hds6⟩
        dsimp only at *
        have hrows' : ∀ r ∈ rows, rowOk op.length r = true := by rw [hopl]; exact hrows
        have hPR := planR_of hl hb6 ha6 ho6 hu6 husl (by omega) hrows'
        refine ⟨a, rfl, o, ha6.box.cell rfl, ?_⟩
        refine (contains_bool_spec o op true h6 (ho6.seqB fun _ => rfl) (by omega)).mono ?_
        rintro v h7 ⟨rfl, rfl⟩
        refine ⟨_, rfl, ?_⟩
        refine br_not (fun hc => ?_) (fun hc => ?_)
        · have hc' : op.contains true = false := by simpa using hc
          have hr3 : r = ⟨[], [], us⟩ := by rw [← hr1]; exact plan_stop hc' f
          subst hr3
          simp only [List.append_nil] at hr2
          refine ⟨a, rfl, u, ha6.box.cell rfl, ?_⟩
          have hul : u.len = rows.length := by rw [hu6.own.len, husl]
          refine loop_inv (fun t : Nat × (Nat → Nat) × Sl => (t.1 : Int)) (fun ⟨j, c, fs⟩ h' => j ≤ rows.length ∧ Base h h' c ∧
            BoxC h' c 1 a1 T_api_Plan [.slice none 0 0, .slice none 0 0, .slice none 0 0] ∧ OwnC h' c 4 T_bool u 1 boolv us ∧
            BoxC h' c 5 ap T_api_Plan [.slice ss.ptr ss.len ss.cap, .slice ds.ptr ds.len ds.cap, .slice fs.ptr fs.len fs.cap] ∧ OwnC h' c 6 T_api_Step ss 2 stepv st ∧ OwnC h' c 7 T_int ds 1 intv dd ∧ OwnC h' c 8 T_int fs 1 intv (leftL us j)) (fun t => rows.length - t.1) (0, c, ⟨none, 0, 0⟩) rfl
            ⟨by simp, hb6, hr6, hu6, hap6, hss6, hds6, OwnC.nil _ _ _ _ _ _⟩ ?_
          rintro ⟨j, c, fs⟩ h8 ⟨hj, hb8, hr8, hu8, hap8, hss8, hds8, hfs8⟩
          dsimp only at *
          refine br_dec (fun hlt => ?_) (fun hge => ?_)
          · have hj' : j < rows.length := by omega
            have hjl : (leftL us j).length ≤ j := left_le us j
            refine (hu8.seqB fun _ => rfl).get1 j rfl (by omega) _ rfl ?_
            have hug : us.getD j false = us[j] := getDb_lt (by omega)
            rw [wrap_small _ (by omega) (by omega)]
            refine br_not (fun hb => ?_) (fun hb => ?_)
            · refine ⟨fs, hap8.box.cell rfl, ?_⟩
              refine runC_lit C_ok hb8 9 intv ⟨_, _, rfl, rfl, rfl, rfl, rfl, rfl⟩ rfl [(j : Int)] rfl (Nat.le_of_ble_eq_true rfl) rfl fun v h9 hv9 hp9 => ?_
              refine (hfs8.keep (m := 9) hp9 (by decide)).append C_ok ⟨_, _, rfl, rfl, rfl, rfl, rfl, rfl⟩ ⟨_, _, rfl, rfl⟩ rfl (by decide) (fun _ => rfl) (hv9.seq fun _ => rfl) one_int (by simp; omega) fun fs' h10 hfs10 hp10 => ?_
              refine ((hap8.keep (m := 9) hp9 (by decide)).keep (m := 8) hp10 (by decide)).store C_ok rfl 2 _ rfl rfl rfl (Nat.le_of_ble_eq_true rfl) fun h11 hap11 hp11 => ?_
              refine ⟨(j + 1, _, fs'), by simp, ⟨by simp; omega, ((hb8.keep hp9 (by decide)).keep hp10 (by decide)).keep hp11 (by decide), ((hr8.keep hp9 (by decide)).keep hp10 (by decide)).keep hp11 (by decide), ((hu8.keep hp9 (by decide)).keep hp10 (by decide)).keep hp11 (by decide), hap11,
                ((hss8.keep hp9 (by decide)).keep hp10 (by decide)).keep hp11 (by decide), ((hds8.keep hp9 (by decide)).keep hp10 (by decide)).keep hp11 (by decide), ?_⟩, by simp; omega⟩
              have e : leftL us (j + 1) = leftL us j ++ [(j : Int)] := by rw [leftL, hug, hb]; rfl
              rw [e]
              exact hfs10.keep hp11 (by decide)
            · have e : leftL us (j + 1) = leftL us j := by rw [leftL, hug, hb]; rfl
              exact ⟨(j + 1, c, fs), by simp, ⟨by simp; omega, hb8, hr8, hu8, hap8, hss8, hds8, by rw [e]; exact hfs8⟩, by simp; omega⟩
          · have hje : j = rows.length := by omega
            subst hje
            refine ⟨(ss, ds, fs), hap8.box.cells0 _ rfl, ?_⟩
            refine hr8.store0 C_ok rfl _ rfl rfl rfl (Nat.le_refl _) fun h9 hr9 hp9 => ?_
            refine ⟨(ss, ds, fs), hr9.box.cells0 _ rfl, (hb8.keep (m := 1) hp9 (by decide)).pres, ?_⟩
            refine ⟨ss, ds, fs, by rw [hr], ?_⟩
            simp only [plOut, hr, if_true, Int.toNat_natCast, hr2]
            exact ⟨(hss8.keep (m := 1) hp9 (by decide)).seqB fun _ => rfl, (hds8.keep (m := 1) hp9 (by decide)).seqB fun _ => rfl, (hfs8.keep (m := 1) hp9 (by decide)).seqB fun _ => rfl⟩
        · have hc' : op.contains true = true := by simpa using hc
          obtain ⟨f', rfl⟩ : ∃ f', f = f' + 1 := by
            obtain ⟨j, hj, e⟩ := contains_get hc'
            have := count_close e
            exact ⟨f - 1, by omega⟩
          refine join_in ?_
          refine (step_spec a l o u rows rs op us h7 hPR (by omega)).mono ?_
          rintro v h8 ⟨hp8, rfl⟩
          have hp8 := hp8.col c 9
          cases hst : stepL rows op us with
          | some i =>
            obtain ⟨hi, htl⟩ := step_tells hst
            obtain ⟨ho1, ho2, ho3⟩ := col_open htl
            have hrow : rows.getD i [] = rows[i] := by rw [List.getD_eq_getElem?_getD, List.getElem?_eq_getElem hi]; rfl
            have hcol := row_cols (hrows' _ (List.getElem_mem hi)) _ (hrow ▸ ho2)
            refine ⟨((i, colOf rows op i), true), rfl, ?_⟩
            dsimp only
            refine runC_alloc C_ok (hb6.keep (m := 9) hp8 (by decide)) 9 rfl fun ax h9 has hp9 => ?_
            refine has.store0 C_ok rfl _ rfl rfl rfl (Nat.le_refl _) fun h10 has10 hp10 => ?_
            refine br_t rfl ?_
            have hb10 := ((hb6.keep (m := 9) hp8 (by decide)).keep (m := 9) hp9 (by decide)).keep (m := 9) hp10 (by decide)
            have hr10 := ((hr6.keep (m := 9) hp8 (by decide)).keep (m := 9) hp9 (by decide)).keep (m := 9) hp10 (by decide)
            have ha10 := ((ha6.keep (m := 9) hp8 (by decide)).keep (m := 9) hp9 (by decide)).keep (m := 9) hp10 (by decide)
            have ho10 := ((ho6.keep (m := 9) hp8 (by decide)).keep (m := 9) hp9 (by decide)).keep (m := 9) hp10 (by decide)
            have hu10 := ((hu6.keep (m := 9) hp8 (by decide)).keep (m := 9) hp9 (by decide)).keep (m := 9) hp10 (by decide)
            have hap10 := ((hap6.keep (m := 9) hp8 (by decide)).keep (m := 9) hp9 (by decide)).keep (m := 9) hp10 (by decide)
            have hss10 := ((hss6.keep (m := 9) hp8 (by decide)).keep (m := 9) hp9 (by decide)).keep (m := 9) hp10 (by decide)
            have hds10 := ((hds6.keep (m := 9) hp8 (by decide)).keep (m := 9) hp9 (by decide)).keep (m := 9) hp10 (by decide)
            clear hb6 hr6 ha6 ho6 hu6 hap6 hss6 hds6 hp8 hp9 has hPR
            generalize grow (grow (grow c h7.size 9) h8.size 9) h9.size 9 = c10 at *
            refine ⟨ss, hap10.box.cell0 rfl, (_, _), has10.box.cells0 _ rfl, ?_⟩
            dsimp only
            refine runC_lit C_ok hb10 10 stepv ⟨_, _, rfl, rfl, rfl, rfl, rfl, rfl⟩ rfl [((i : Int), colOf rows op i)] rfl (Nat.le_of_ble_eq_true rfl) rfl fun v h11 hv11 hp11 => ?_
            refine (hss10.keep (m := 10) hp11 (by decide)).append C_ok ⟨_, _, rfl, rfl, rfl, rfl, rfl, rfl⟩ ⟨_, _, rfl, rfl⟩ rfl (by decide) (fun _ => rfl) (hv11.seq fun _ => rfl) one_step (by simp; omega) fun ss' h12 hss12 hp12 => ?_
            refine ((hap10.keep (m := 10) hp11 (by decide)).keep (m := 6) hp12 (by decide)).store0 C_ok rfl _ rfl rfl rfl (Nat.le_of_ble_eq_true rfl) fun h13 hap13 hp13 => ?_
            have has13 := ((has10.keep (m := 10) hp11 (by decide)).keep (m := 6) hp12 (by decide)).keep (m := 5) hp13 (by decide)
            have ha13 := ((ha10.keep (m := 10) hp11 (by decide)).keep (m := 6) hp12 (by decide)).keep (m := 5) hp13 (by decide)
            have hu13 := ((hu10.keep (m := 10) hp11 (by decide)).keep (m := 6) hp12 (by decide)).keep (m := 5) hp13 (by decide)
            have ho13 := ((ho10.keep (m := 10) hp11 (by decide)).keep (m := 6) hp12 (by decide)).keep (m := 5) hp13 (by decide)
            refine ⟨a, rfl, u, ha13.box.cell rfl, (i : Int), has13.box.cell0 rfl, a, rfl, o, ha13.box.cell rfl, colOf rows op i, has13.box.cell rfl, ?_⟩
            refine hu13.set C_ok (fun _ => rfl) rfl i rfl (by omega) true rfl rfl rfl fun h14 hu14 hp14 => ?_
            have has14 := has13.keep (m := 4) hp14 (by decide)
            have ha14 := ha13.keep (m := 4) hp14 (by decide)
            refine ⟨⟨has14.box.cell rfl, ha14.box.cell rfl, has14.box.cell0 rfl, ha14.box.cell rfl, trivial⟩, ?_⟩
            refine (ho13.keep (m := 4) hp14 (by decide)).set C_ok (fun _ => rfl) rfl (colOf rows op i).toNat (by omega) (by omega) false rfl rfl rfl fun h15 ho15 hp15 => ?_
            have has15 := has14.keep (m := 3) hp15 (by decide)
            have ha15 := ha14.keep (m := 3) hp15 (by decide)
            refine ⟨⟨has15.box.cell rfl, ha15.box.cell rfl, has15.box.cell0 rfl, ha15.box.cell rfl, trivial⟩, ?_⟩
            have hcc := count_close (op := op) (j := (colOf rows op i).toNat) ho3
            rw [plan_step hc' hst] at hr1
            refine ⟨(f', op.set (colOf rows op i).toNat false, us.set i true, st ++ [((i : Int), colOf rows op i)], dd, _, ss', ds), rfl, ⟨by simp [hopl], by simp [husl], by dsimp only; omega, by dsimp only; omega, by simp; omega, by dsimp only; omega, ⟨_, rfl, ?_⟩,
              ((((hb10.keep hp11 (by decide)).keep hp12 (by decide)).keep hp13 (by decide)).keep hp14 (by decide)).keep hp15 (by decide),
              ((((hr10.keep hp11 (by decide)).keep hp12 (by decide)).keep hp13 (by decide)).keep hp14 (by decide)).keep hp15 (by decide),
              ha15, ho15, hu14.keep hp15 (by decide), (hap13.keep hp14 (by decide)).keep hp15 (by decide), ((hss12.keep hp13 (by decide)).keep hp14 (by decide)).keep hp15 (by decide),
              ((((hds10.keep hp11 (by decide)).keep hp12 (by decide)).keep hp13 (by decide)).keep hp14 (by decide)).keep hp15 (by decide)⟩, by dsimp only; omega⟩
            rw [hr2, ← hr1]
            simp
          | none =>
            have hmo := most_open (rows := rows) (us := us) hc'
            refine ⟨((0, 0), false), rfl, ?_⟩
            dsimp only
            refine runC_alloc C_ok (hb6.keep (m := 9) hp8 (by decide)) 9 rfl fun ax h9 has hp9 => ?_
            refine has.store0 C_ok rfl _ rfl rfl rfl (Nat.le_refl _) fun h10 has10 hp10 => ?_
            refine br_f rfl ?_
            have hb10 := ((hb6.keep (m := 9) hp8 (by decide)).keep (m := 9) hp9 (by decide)).keep (m := 9) hp10 (by decide)
            have hr10 := ((hr6.keep (m := 9) hp8 (by decide)).keep (m := 9) hp9 (by decide)).keep (m := 9) hp10 (by decide)
            have ha10 := ((ha6.keep (m := 9) hp8 (by decide)).keep (m := 9) hp9 (by decide)).keep (m := 9) hp10 (by decide)
            have ho10 := ((ho6.keep (m := 9) hp8 (by decide)).keep (m := 9) hp9 (by decide)).keep (m := 9) hp10 (by decide)
            have hu10 := ((hu6.keep (m := 9) hp8 (by decide)).keep (m := 9) hp9 (by decide)).keep (m := 9) hp10 (by decide)
            have hap10 := ((hap6.keep (m := 9) hp8 (by decide)).keep (m := 9) hp9 (by decide)).keep (m := 9) hp10 (by decide)
            have hss10 := ((hss6.keep (m := 9) hp8 (by decide)).keep (m := 9) hp9 (by decide)).keep (m := 9) hp10 (by decide)
            have hds10 := ((hds6.keep (m := 9) hp8 (by decide)).keep (m := 9) hp9 (by decide)).keep (m := 9) hp10 (by decide)
            clear hb6 hr6 ha6 ho6 hu6 hap6 hss6 hds6 hp8 hp9 has hPR
            generalize grow (grow (grow c h7.size 9) h8.size 9) h9.size 9 = c10 at *
            have hPR := planR_of hl hb10 ha10 ho10 hu10 husl (by omega) hrows'
            refine (most_spec a l o u rows rs op us h10 hPR (by omega) (by omega)).mono ?_
            rintro v h11 ⟨hp11, rfl⟩
            have hp11 := hp11.col c10 9
            refine ⟨_, rfl, ?_⟩
            refine ⟨ds, (hap10.keep (m := 9) hp11 (by decide)).box.cell rfl, ?_⟩
            refine runC_lit C_ok (hb10.keep (m := 9) hp11 (by decide)) 10 intv ⟨_, _, rfl, rfl, rfl, rfl, rfl, rfl⟩ rfl [mostL rows op us] rfl (Nat.le_of_ble_eq_true rfl) rfl fun v h12 hv12 hp12 => ?_
            refine ((hds10.keep (m := 9) hp11 (by decide)).keep (m := 10) hp12 (by decide)).append C_ok ⟨_, _, rfl, rfl, rfl, rfl, rfl, rfl⟩ ⟨_, _, rfl, rfl⟩ rfl (by decide) (fun _ => rfl) (hv12.seq fun _ => rfl) one_int (by simp; omega) fun ds' h13 hds13 hp13 => ?_
            refine (((hap10.keep (m := 9) hp11 (by decide)).keep (m := 10) hp12 (by decide)).keep (m := 7) hp13 (by decide)).store C_ok rfl 1 _ rfl rfl rfl (Nat.le_of_ble_eq_true rfl) fun h14 hap14 hp14 => ?_
            have ha14 := (((ha10.keep (m := 9) hp11 (by decide)).keep (m := 10) hp12 (by decide)).keep (m := 7) hp13 (by decide)).keep (m := 5) hp14 (by decide)
            have ho14 := (((ho10.keep (m := 9) hp11 (by decide)).keep (m := 10) hp12 (by decide)).keep (m := 7) hp13 (by decide)).keep (m := 5) hp14 (by decide)
            refine ⟨a, rfl, o, ha14.box.cell rfl, ?_⟩
            refine ho14.set C_ok (fun _ => rfl) rfl (mostL rows op us).toNat (by omega) (by omega) false rfl rfl rfl fun h15 ho15 hp15 => ?_
            have hcc := count_close (op := op) (j := (mostL rows op us).toNat) hmo.2.2
            rw [plan_dead hc' hst] at hr1
            refine ⟨(f', op.set (mostL rows op us).toNat false, us, st, dd ++ [mostL rows op us], _, ss, ds'), rfl, ⟨by simp [hopl], husl, by dsimp only; omega, by dsimp only; omega, by dsimp only; omega, by simp; omega, ⟨_, rfl, ?_⟩,
              ((((hb10.keep hp11 (by decide)).keep hp12 (by decide)).keep hp13 (by decide)).keep hp14 (by decide)).keep hp15 (by decide),
              ((((hr10.keep hp11 (by decide)).keep hp12 (by decide)).keep hp13 (by decide)).keep hp14 (by decide)).keep hp15 (by decide),
              ha14.keep hp15 (by decide), ho15, ((((hu10.keep hp11 (by decide)).keep hp12 (by decide)).keep hp13 (by decide)).keep hp14 (by decide)).keep hp15 (by decide), hap14.keep hp15 (by decide),
              ((((hss10.keep hp11 (by decide)).keep hp12 (by decide)).keep hp13 (by decide)).keep hp14 (by decide)).keep hp15 (by decide),
              (hds13.keep hp14 (by decide)).keep hp15 (by decide)⟩, by dsimp only; omega⟩
            rw [hr2, ← hr1]
            simp
end Go.Proofs.Ytlefjaiignpnaaa

namespace Go.Proofs.Ytlefjaiignpnaaa
open Go Go.Vc Go.Proofs Wl
set_option maxRecDepth 100000
def nboolv (b : Bool) : List Value := [.bool (!b)]
theorem one_nbool : ∀ x, ∀ c ∈ nboolv x, c.oneCell' = true := by intro x c hc; simp only [nboolv, List.mem_singleton] at hc; subst hc; rfl

theorem Seq.up {α : Type} {h h' : Heap} {s : Sl} {k : Nat} {f : α → List Value} {l : List α} (hs : Seq h (fun b => b < h.size) s k f l) (hp : Pres (fun b => b < h.size) h h') : Seq h' (fun b => b < h'.size) s k f l :=
  (hs.pres hp).mono fun _ hb => Nat.lt_of_lt_of_le hb hp.1
theorem Seq2.up {α : Type} {h h' : Heap} {s : Sl} {k : Nat} {f : α → List Value} {l : List (List α)} {rs : List Sl} (hs : Seq2 h (fun b => b < h.size) s k f l rs) (hp : Pres (fun b => b < h.size) h h') : Seq2 h' (fun b => b < h'.size) s k f l rs :=
  (hs.pres hp).mono fun _ hb => Nat.lt_of_lt_of_le hb hp.1

set_option maxHeartbeats 4000000 in
theorem open_spec {p q : Blocks} (r o : Sl) (row : List Int) (op : List Bool) (h : Heap) (hr : Seq h p r 1 intv row) (ho : Seq h q o 1 nboolv op) (hpb : ∀ b, p b → b < h.size) (hqb : ∀ b, q b → b < h.size)
    (hin : ∀ c ∈ row, 0 ≤ c ∧ c < op.length) (hs : row.length ≤ 2 ^ 30) :
    Spec Try.prog wellspringref11_open_id #[.slice r.ptr r.len r.cap, .slice o.ptr o.len o.cap] h fun v h' => Pres (fun b => b < h.size) h h' ∧ ∃ s : Sl, v = .slice s.ptr s.len s.cap ∧ Seq h' (fun b => h.size ≤ b ∧ b < h'.size) s 1 intv (openCols op row) := by
  refine wellspringref11_open_run r o ?_
  unfold wellspringref11_open_m
  have hrl := hr.len
  refine loop_inv (fun t : Nat × (Nat → Nat) × Sl => (t.2.2, (t.1 : Int))) (fun ⟨k, c, s⟩ h' => k ≤ row.length ∧ Base h h' c ∧ OwnC h' c 1 T_int s 1 intv (openCols op (row.take k))) (fun t => row.length - t.1) (0, fun _ => 0, ⟨none, 0, 0⟩) rfl
    ⟨by simp, Base.refl h, OwnC.nil _ _ _ _ _ _⟩ ?_
  rintro ⟨k, c, s⟩ h1 ⟨hk, hb1, hs1⟩
  dsimp only at *
  refine br_dec (fun hlt => ?_) (fun hge => ?_)
  · have hk' : k < row.length := by omega
    have hc := hin _ (List.getElem_mem hk')
    have hr1 := hr.pres (hb1.pres.mono fun b _ hb => hpb b hb)
    have ho1 := ho.pres (hb1.pres.mono fun b _ hb => hqb b hb)
    refine hr1.get1 k rfl hk' _ rfl ?_
    have hlt2 : row[k].toNat < op.length := by omega
    refine ho1.get1 row[k].toNat (by omega) hlt2 _ rfl ?_
    have hopn : opn op row[k] = op[row[k].toNat] := by simp [opn, List.getD_eq_getElem?_getD, List.getElem?_eq_getElem hlt2]
    have hsn := filter_snoc (f := opn op) hk'
    have hcl : (openCols op (row.take k)).length ≤ row.length := Nat.le_trans (List.length_filter_le _ _) (by rw [List.length_take]; omega)
    rw [wrap_small _ (by omega) (by omega)]
    refine br_not (fun hb => ?_) (fun hb => ?_)
    · have e : openCols op (row.take (k + 1)) = openCols op (row.take k) ++ [row[k]] := by
        simp only [Bool.not_eq_false'] at hb
        rw [openCols, hsn, hopn, hb]; rfl
      refine runC_lit C_ok hb1 2 intv ⟨_, _, rfl, rfl, rfl, rfl, rfl, rfl⟩ rfl [row[k]] rfl (Nat.le_of_ble_eq_true rfl) rfl fun v h2 hv2 hp2 => ?_
      refine (hs1.keep (m := 2) hp2 (by decide)).append C_ok ⟨_, _, rfl, rfl, rfl, rfl, rfl, rfl⟩ ⟨_, _, rfl, rfl⟩ rfl (by decide) (fun _ => rfl) (hv2.seq fun _ => rfl) one_int (by simp; omega) fun s' h3 hs3 hp3 => ?_
      exact ⟨(k + 1, _, s'), by simp, ⟨by simp; omega, (hb1.keep hp2 (by decide)).keep hp3 (by decide), by rw [e]; exact hs3⟩, by simp; omega⟩
    · have e : openCols op (row.take (k + 1)) = openCols op (row.take k) := by
        simp only [Bool.not_eq_true'] at hb
        rw [openCols, hsn, hopn, hb]; rfl
      exact ⟨(k + 1, c, s), by simp, ⟨by simp; omega, hb1, by rw [e]; exact hs1⟩, by simp; omega⟩
  · have e : row.take k = row := List.take_of_length_le (by omega)
    rw [e] at hs1
    exact ⟨hb1.pres, s, rfl, hs1.fresh hb1 (by decide) fun _ => rfl⟩

set_option maxHeartbeats 8000000 in
theorem refPlan_spec (n : Int) (l : Sl) (rows : List (List Int)) (rs : List Sl) (h : Heap) (hl : Seq2 h (fun b => b < h.size) l 1 intv rows rs) (hs : rows.length ≤ 2 ^ 30) (hss : ∀ r ∈ rows, r.length ≤ 2 ^ 40) :
    Spec Try.prog wellspringref11_Plan_id #[.int .i64 n, .slice l.ptr l.len l.cap] h fun v h' => Pres (fun b => b < h.size) h h' ∧ PlanIs h' v (rightB n rows) (plOut n rows).1 (plOut n rows).2.1 (plOut n rows).2.2 := by
  refine wellspringref11_Plan_run n l ?_
  unfold wellspringref11_Plan_m
  have hll := hl.slen
  refine runC_alloc C_ok (Base.refl h) 1 rfl fun a1 h1 ha1 hp1 => ?_
  have hb1 := (Base.refl h).keep (m := 1) hp1 (by decide)
  have fail : ∀ {h1 : Heap} {c : Nat → Nat}, Base h h1 c → BoxC h1 c 1 a1 T_api_Plan [.slice none 0 0, .slice none 0 0, .slice none 0 0] → rightB n rows = false →
      Runs Try.prog (Instr.storeAt 31 (.pointer (some a1)) (.agg #[(.slice none 0 0), (.slice none 0 0), (.slice none 0 0)])) h1 fun _ h3 =>
        ∃ res3 : Sl × Sl × Sl, cellsAt h3 a1 0 [(.slice res3.1.ptr res3.1.len res3.1.cap), (.slice res3.2.1.ptr res3.2.1.len res3.2.1.cap), (.slice res3.2.2.ptr res3.2.2.len res3.2.2.cap)] ∧
        (fun v h' => Pres (fun b => b < h.size) h h' ∧ PlanIs h' v (rightB n rows) (plOut n rows).1 (plOut n rows).2.1 (plOut n rows).2.2) (.tuple #[(.agg #[(.slice res3.1.ptr res3.1.len res3.1.cap), (.slice res3.2.1.ptr res3.2.1.len res3.2.1.cap), (.slice res3.2.2.ptr res3.2.2.len res3.2.2.cap)]), (.bool false)]) h3 := by
    intro h1 c hb1 ha1 hr
    refine ha1.store0 C_ok rfl _ rfl rfl rfl (Nat.le_refl _) fun h3 ha3 hp3 => ?_
    refine ⟨(⟨none, 0, 0⟩, ⟨none, 0, 0⟩, ⟨none, 0, 0⟩), ha3.box.cells0 _ rfl, (hb1.keep (m := 1) hp3 (by decide)).pres, ?_⟩
    refine ⟨⟨none, 0, 0⟩, ⟨none, 0, 0⟩, ⟨none, 0, 0⟩, by rw [hr], ?_⟩
    simp only [plOut, hr, Bool.false_eq_true, if_false]
    exact ⟨Seq.nil _ _ _ _ _ _, Seq.nil _ _ _ _ _ _, Seq.nil _ _ _ _ _ _⟩
  refine join_in ?_
  refine br_dec (fun hneg => ?_) (fun hn0 => br_dec (fun hbig => ?_) (fun hn1 => ?_))
  · exact fail hb1 ha1 (by simp [rightB]; omega)
  · exact fail hb1 ha1 (by simp [rightB]; omega)
  · obtain ⟨N, rfl⟩ : ∃ N : Nat, n = N := ⟨n.toNat, by omega⟩
    have hN : N ≤ 64 := by omega
    refine loop_inv (fun k : Nat => (k : Int)) (fun k h' => h' = h1 ∧ k ≤ rows.length ∧ (rows.take k).all (rowOk N) = true) (fun k => rows.length - k) 0 rfl ⟨rfl, by omega, rfl⟩ ?_
    rintro k h2 ⟨rfl, hk, hall⟩
    refine br_dec (fun hlt => ?_) (fun hge => ?_)
    · have hk' : k < rows.length := by omega
      refine ((hl.pres hb1.pres).get k rfl hk' fun r hr _ => ?_)
      refine (mayRow_spec N r rows[k] h2 hr (hss _ (List.getElem_mem hk'))).mono ?_
      rintro v h3 ⟨rfl, rfl⟩
      refine ⟨_, rfl, ?_⟩
      rw [wrap_small _ (by omega) (by omega)]
      refine br_not (fun hb => ?_) (fun hb => ?_)
      · exact fail hb1 ha1 (by rw [rightB, all_no hk' hb]; simp)
      · exact ⟨k + 1, by simp, ⟨rfl, by omega, by rw [all_take hk' hall]; exact hb⟩, by omega⟩
    · have hke : k = rows.length := by omega
      subst hke
      rw [List.take_length] at hall
      have hr : rightB N rows = true := by rw [rightB, hall, decide_eq_true (by omega)]; rfl
      obtain ⟨_, _, hrows⟩ := right_n hr
      refine runC_alloc C_ok hb1 5 rfl fun ap h3 hap hp3 => ?_
      have hb3 := hb1.keep (m := 5) hp3 (by decide)
      have hr3 := ha1.keep (m := 5) hp3 (by decide)
      refine join_cut (fun s h' => ∃ c, Base h h' c ∧ BoxC h' c 1 a1 T_api_Plan [.slice none 0 0, .slice none 0 0, .slice none 0 0] ∧ BoxC h' c 5 ap T_api_Plan [.slice none 0 0, .slice none 0 0, .slice none 0 0] ∧
        OwnC h' c 3 T_bool s.1 1 nboolv (List.replicate N true) ∧ OwnC h' c 4 T_bool s.2 1 boolv (List.replicate rows.length false)) ⟨?_, ?_⟩ ?_
      · refine runC_make C_ok hb3 3 nboolv ⟨_, _, rfl, rfl, rfl, rfl, rfl, rfl⟩ (by decide) true rfl rfl N rfl rfl (by omega) fun o h4 ho hp4 => ?_
        refine ⟨trivial, ?_⟩
        refine runC_make C_ok (hb3.keep (m := 3) hp4 (by decide)) 4 boolv ⟨_, _, rfl, rfl, rfl, rfl, rfl, rfl⟩ (by decide) false rfl rfl rows.length (by omega) (by omega) (by omega) fun u h5 hu hp5 => ?_
        exact ⟨trivial, _, (hb3.keep hp4 (by decide)).keep hp5 (by decide), (hr3.keep hp4 (by decide)).keep hp5 (by decide), (hap.keep hp4 (by decide)).keep hp5 (by decide), ho.keep hp5 (by decide), hu⟩
      · refine runC_make C_ok hb3 4 boolv ⟨_, _, rfl, rfl, rfl, rfl, rfl, rfl⟩ (by decide) false rfl rfl rows.length (by omega) (by omega) (by omega) fun u h4 hu hp4 => ?_
        refine ⟨trivial, ?_⟩
        refine runC_make C_ok (hb3.keep (m := 4) hp4 (by decide)) 3 nboolv ⟨_, _, rfl, rfl, rfl, rfl, rfl, rfl⟩ (by decide) true rfl rfl N rfl rfl (by omega) fun o h5 ho hp5 => ?_
        exact ⟨trivial, _, (hb3.keep hp4 (by decide)).keep hp5 (by decide), (hr3.keep hp4 (by decide)).keep hp5 (by decide), (hap.keep hp4 (by decide)).keep hp5 (by decide), ho, hu.keep hp5 (by decide)⟩
      · rintro ⟨o, u⟩ h4 ⟨c4, hb4, hr4, hap4, ho4, hu4⟩
        clear hb3 hr3 hap hp3 ha1 hp1 fail
        dsimp only at *
        refine loop_inv (τ := Nat × List Bool × List Bool × (List (Int × Int)) × List Int × (Nat → Nat) × Sl × Sl) (fun t => (t.1 : Int))
          (fun ⟨f, op, us, st, dd, c, ss, ds⟩ h' => op.length = N ∧ us.length = rows.length ∧ op.count true = f ∧ f ≤ N ∧ st.length ≤ N - f ∧ dd.length ≤ N - f ∧
            (∃ r, planRun rows f op us = r ∧ planL N rows = ⟨st ++ r.steps, dd ++ r.dead, r.used⟩) ∧ Base h h' c ∧
            BoxC h' c 1 a1 T_api_Plan [.slice none 0 0, .slice none 0 0, .slice none 0 0] ∧
            OwnC h' c 3 T_bool o 1 nboolv op ∧ OwnC h' c 4 T_bool u 1 boolv us ∧
            BoxC h' c 5 ap T_api_Plan [.slice ss.ptr ss.len ss.cap, .slice ds.ptr ds.len ds.cap, .slice none 0 0] ∧ OwnC h' c 6 T_api_Step ss 2 stepv st ∧ OwnC h' c 7 T_int ds 1 intv dd)
          (fun t => t.1) (N, List.replicate N true, List.replicate rows.length false, [], [], c4, ⟨none, 0, 0⟩, ⟨none, 0, 0⟩) rfl
          ⟨by simp, by simp, by simp, by simp, by simp, by simp, ⟨_, rfl, by simp [planL]⟩, hb4, hr4, ho4, hu4, hap4, OwnC.nil _ _ _ _ _ _, OwnC.nil _ _ _ _ _ _⟩ ?_
        rintro ⟨f, op, us, st, dd, c, ss, ds⟩ h6 ⟨hopl, husl, hcnt, hfk, hstl, hddl, ⟨r, hr1, hr2⟩, hb6, hr6, ho6, hu6, hap6, hss6, hds6⟩
        dsimp only at *
        have hrows' : ∀ r ∈ rows, rowOk op.length r = true := by rw [hopl]; exact hrows
        refine br_dec (fun hf => ?_) (fun hf => ?_)
        · obtain ⟨f', rfl⟩ : ∃ f', f = f' + 1 := ⟨f - 1, by omega⟩
          have hc' : op.contains true = true := contains_of_count hcnt
          have hgl : ∀ k, ((fun _ r => openCols op r : Nat → List Int → List Int) k (rows.getD k [])).length ≤ 64 := fun k => by
            show (openCols op (rows.getD k [])).length ≤ 64
            refine Nat.le_trans (List.length_filter_le _ _) ?_
            by_cases hk : k < rows.length
            · rw [List.getD_eq_getElem?_getD, List.getElem?_eq_getElem hk]; exact row_short (hrows _ (List.getElem_mem hk)) (by omega)
            · rw [List.getD_eq_getElem?_getD, List.getElem?_eq_none (by omega)]; simp
          obtain ⟨cn, hcn⟩ : ∃ cn, cn = cntRows (fun _ r => openCols op r) rows us (List.replicate N 0) := ⟨_, rfl⟩
          have hcl : ∀ k, (cn k).length = N := fun k => by rw [hcn, cnt_length]; simp
          have hcm : ∀ k, ∀ x ∈ cn k, 0 ≤ x ∧ x ≤ 64 * k := fun k x hx => by rw [hcn] at hx; exact cnt_le (fun _ r => openCols op r) hgl k x hx
          refine runC_make C_ok hb6 8 intv ⟨_, _, rfl, rfl, rfl, rfl, rfl, rfl⟩ (by decide) 0 rfl rfl N rfl rfl (by omega) fun q h7 hq7 hp7 => ?_
          refine loop_inv (fun t : Nat × (Nat → Nat) => (fndRow rows op us t.1, fndCol rows op us t.1, (t.1 : Int))) (fun ⟨i, c⟩ h' => i ≤ rows.length ∧ Base h h' c ∧
            BoxC h' c 1 a1 T_api_Plan [.slice none 0 0, .slice none 0 0, .slice none 0 0] ∧
            OwnC h' c 3 T_bool o 1 nboolv op ∧ OwnC h' c 4 T_bool u 1 boolv us ∧
            BoxC h' c 5 ap T_api_Plan [.slice ss.ptr ss.len ss.cap, .slice ds.ptr ds.len ds.cap, .slice none 0 0] ∧ OwnC h' c 6 T_api_Step ss 2 stepv st ∧ OwnC h' c 7 T_int ds 1 intv dd ∧ OwnC h' c 8 T_int q 1 intv (cn i)) (fun t => rows.length - t.1) (0, _) rfl
            ⟨by simp, hb6.keep hp7 (by decide), hr6.keep hp7 (by decide), ho6.keep hp7 (by decide), hu6.keep hp7 (by decide), hap6.keep hp7 (by decide), hss6.keep hp7 (by decide), hds6.keep hp7 (by decide), by rw [hcn]; exact hq7⟩ ?_
          clear hb6 hr6 ho6 hu6 hap6 hss6 hds6 hp7 hq7 hb4 hr4 ho4 hu4 hap4
          rintro ⟨i, c⟩ h8 ⟨hi, hb8, hr8, ho8, hu8, hap8, hss8, hds8, hq8⟩
          dsimp only at *
          refine br_dec (fun hlt => ?_) (fun hge => ?_)
          · have hi' : i < rows.length := by omega
            have hrow : rows.getD i [] = rows[i] := by rw [List.getD_eq_getElem?_getD, List.getElem?_eq_getElem hi']; rfl
            have hu : us.getD i false = us[i] := getDb_lt (by omega)
            have hl8 := Seq2.up hl hb8.pres
            refine hl8.get i rfl hi' fun r hr hri => ?_
            have hcols := row_cols (hrows' _ (List.getElem_mem hi'))
            have hshort := row_short (hrows' _ (List.getElem_mem hi')) (by omega)
            refine (open_spec r o rows[i] op h8 hr (ho8.seqB fun _ => rfl) (fun _ hb => hb) (fun _ hb => hb) hcols (by omega)).mono ?_
            rintro v h9 ⟨hp9, w, rfl, hw⟩
            have hp9 : Pres (fun b => c b ≠ 9) h8 h9 := hp9.mono fun b hb _ => hb
            refine ⟨w, rfl, ?_⟩
            have hb9 := hb8.keep (m := 9) hp9 (by decide)
            have hr9 := hr8.keep (m := 9) hp9 (by decide)
            have ho9 := ho8.keep (m := 9) hp9 (by decide)
            have hu9 := hu8.keep (m := 9) hp9 (by decide)
            have hap9 := hap8.keep (m := 9) hp9 (by decide)
            have hss9 := hss8.keep (m := 9) hp9 (by decide)
            have hds9 := hds8.keep (m := 9) hp9 (by decide)
            have hq9 := hq8.keep (m := 9) hp9 (by decide)
            have hw9 : SeqC h9 (grow c h8.size 9) 9 w 1 intv (openCols op rows[i]) := SeqC.new hw
            refine (hu9.seqB fun _ => rfl).get1 i rfl (by omega) _ rfl ?_
            rw [wrap_small (↑i + 1) (by omega) (by omega)]
            refine br_b (fun hb => ?_) (fun hb => ?_)
            · have ht : tells rows op us i = false := by simp only [tells, hu, hb]; rfl
              have hf := fnd_skip ht
              have e1 : cn (i + 1) = cn i := by rw [hcn, cntRows, hu, hb]; rfl
              exact ⟨(i + 1, _), by simp [fndRow, fndCol, hf], ⟨by simp; omega, hb9, hr9, ho9, hu9, hap9, hss9, hds9, by rw [e1]; exact hq9⟩, by simp; omega⟩
            · have htl : tells rows op us i = ((openCols op rows[i]).length == 1) := by simp only [tells, hu, hb, hrow]; rfl
              have hwl := hw.len
              have e1 : cn (i + 1) = addRow (cn i) (openCols op rows[i]) := by rw [hcn, cntRows, hu, hb]; simp only [hrow]; rfl
              refine join_cut (fun s h' => s = (fndRow rows op us (i + 1), fndCol rows op us (i + 1)) ∧ h' = h9) ?_ ?_
              · refine br_eq (fun h1 => ?_) (fun h1 => ?_)
                · have ht : tells rows op us i = true := by rw [htl]; simp; omega
                  refine br_dec (fun h2 => ?_) (fun h2 => ?_)
                  · have hne : 0 < (openCols op rows[i]).length := by omega
                    refine hw.get1 0 rfl hne _ rfl ?_
                    have hf := fnd_new h2 ht
                    have ec : colOf rows op i = (openCols op rows[i])[0] := by
                      have := (col_open ht).1
                      rw [hrow] at this
                      simp [this]
                    refine ⟨?_, rfl⟩
                    rw [← ec]
                    simp [fndRow, fndCol, hf]
                  · have hf := fnd_keep h2
                    refine ⟨?_, rfl⟩
                    simp [fndRow, fndCol, hf]
                · have ht : tells rows op us i = false := by rw [htl]; simp; omega
                  have hf := fnd_skip ht
                  refine ⟨?_, rfl⟩
                  simp [fndRow, fndCol, hf]
              · rintro s h' ⟨rfl, rfl⟩
                dsimp only
                have hlen : ∀ j, (addRow (cn i) ((openCols op rows[i]).take j)).length = N := fun j => by rw [addRow_length, hcl]
                refine loop_inv (fun t : Nat × (Nat → Nat) => (t.1 : Int)) (fun ⟨j, c⟩ h' => j ≤ (openCols op rows[i]).length ∧ SeqC h' c 9 w 1 intv (openCols op rows[i]) ∧ Base h h' c ∧
                  BoxC h' c 1 a1 T_api_Plan [.slice none 0 0, .slice none 0 0, .slice none 0 0] ∧
                  OwnC h' c 3 T_bool o 1 nboolv op ∧ OwnC h' c 4 T_bool u 1 boolv us ∧
                  BoxC h' c 5 ap T_api_Plan [.slice ss.ptr ss.len ss.cap, .slice ds.ptr ds.len ds.cap, .slice none 0 0] ∧ OwnC h' c 6 T_api_Step ss 2 stepv st ∧ OwnC h' c 7 T_int ds 1 intv dd ∧ OwnC h' c 8 T_int q 1 intv (addRow (cn i) ((openCols op rows[i]).take j))) (fun t => (openCols op rows[i]).length - t.1) (0, _) rfl
                  ⟨by simp, hw9, hb9, hr9, ho9, hu9, hap9, hss9, hds9, by simpa [addRow] using hq9⟩ ?_
                rintro ⟨j, c⟩ h10 ⟨hj, hw10, hb10, hr10, ho10, hu10, hap10, hss10, hds10, hq10⟩
                dsimp only at *
                refine br_dec (fun hlt => ?_) (fun hge => ?_)
                · have hj' : j < (openCols op rows[i]).length := by omega
                  have hcj := hcols _ (List.mem_filter.1 (List.getElem_mem hj')).1
                  have hcj : 0 ≤ (openCols op rows[i])[j] ∧ (openCols op rows[i])[j] < op.length := hcj
                  have hll : (openCols op rows[i]).length ≤ 64 := Nat.le_trans (List.length_filter_le _ _) hshort
                  refine Seq.get1 hw10 j rfl hj' _ rfl ?_
                  have hlt2 : (openCols op rows[i])[j].toNat < (addRow (cn i) ((openCols op rows[i]).take j)).length := by rw [hlen]; omega
                  have hbd := addRow_le (r := (openCols op rows[i]).take j) (hcm i) _ (List.getElem_mem hlt2)
                  have hjl : ((openCols op rows[i]).take j).length ≤ 64 := by rw [List.length_take]; omega
                  refine (hq10.seqB fun _ => rfl).get1 _ (by omega) hlt2 _ rfl ?_
                  rw [wrap_small (↑j + 1) (by omega) (by omega), wrap_small _ (by omega) (by omega)]
                  refine hq10.set C_ok (fun _ => rfl) rfl (openCols op rows[i])[j].toNat (by omega) hlt2 _ rfl rfl rfl fun h11 hq11 hp11 => ?_
                  refine ⟨(j + 1, grow c h10.size 8), by simp, ⟨by simp; omega, hw10.keep hp11 (by decide), hb10.keep hp11 (by decide), hr10.keep hp11 (by decide), ho10.keep hp11 (by decide), hu10.keep hp11 (by decide), hap10.keep hp11 (by decide), hss10.keep hp11 (by decide), hds10.keep hp11 (by decide), ?_⟩, by simp; omega⟩
                  · rw [take_snoc _ _ hj', addRow_snoc, getD_lt hlt2]; exact hq11
                · have : (openCols op rows[i]).take j = openCols op rows[i] := List.take_of_length_le (by omega)
                  rw [this] at hq10
                  exact ⟨(i + 1, c), by simp, ⟨by simp; omega, hb10, hr10, ho10, hu10, hap10, hss10, hds10, by rw [e1]; exact hq10⟩, by simp; omega⟩
          · have hie : i = rows.length := by omega
            subst hie
            have hst : stepL rows op us = fnd rows op us rows.length := rfl
            refine br_dec (fun hge => ?_) (fun hng => ?_)
            · obtain ⟨x, hx, ex1, ex2⟩ := fnd_pos (rows := rows) (op := op) (us := us) (k := rows.length) (by omega)
              rw [ex1, ex2]
              rw [hx] at hst
              obtain ⟨hxi, htl⟩ := step_tells hst
              obtain ⟨co1, co2, co3⟩ := col_open htl
              have hrow : rows.getD x [] = rows[x] := by rw [List.getD_eq_getElem?_getD, List.getElem?_eq_getElem hxi]; rfl
              have hcol := row_cols (hrows' _ (List.getElem_mem hxi)) _ (hrow ▸ co2)
              refine hu8.set C_ok (fun _ => rfl) rfl x rfl (by omega) true rfl rfl rfl fun h9 hu9 hp9 => ?_
              refine (ho8.keep (m := 4) hp9 (by decide)).set C_ok (fun _ => rfl) rfl (colOf rows op x).toNat (by omega) (by omega) false rfl rfl rfl fun h10 ho10 hp10 => ?_
              refine ⟨ss, ((hap8.keep (m := 4) hp9 (by decide)).keep (m := 3) hp10 (by decide)).box.cell0 rfl, ?_⟩
              refine runC_lit C_ok ((hb8.keep (m := 4) hp9 (by decide)).keep (m := 3) hp10 (by decide)) 10 stepv ⟨_, _, rfl, rfl, rfl, rfl, rfl, rfl⟩ rfl [((x : Int), colOf rows op x)] rfl (Nat.le_of_ble_eq_true rfl) rfl fun v h11 hv11 hp11 => ?_
              refine (((hss8.keep (m := 4) hp9 (by decide)).keep (m := 3) hp10 (by decide)).keep (m := 10) hp11 (by decide)).append C_ok ⟨_, _, rfl, rfl, rfl, rfl, rfl, rfl⟩ ⟨_, _, rfl, rfl⟩ rfl (by decide) (fun _ => rfl) (hv11.seq fun _ => rfl) one_step (by simp; omega) fun ss' h12 hss12 hp12 => ?_
              refine ((((hap8.keep (m := 4) hp9 (by decide)).keep (m := 3) hp10 (by decide)).keep (m := 10) hp11 (by decide)).keep (m := 6) hp12 (by decide)).store0 C_ok rfl _ rfl rfl rfl (Nat.le_of_ble_eq_true rfl) fun h13 hap13 hp13 => ?_
              rw [wrap_small _ (by omega) (by omega)]
              have hcc := count_close (op := op) (j := (colOf rows op x).toNat) co3
              rw [plan_step hc' hst] at hr1
              refine ⟨(f', op.set (colOf rows op x).toNat false, us.set x true, st ++ [((x : Int), colOf rows op x)], dd, _, ss', ds), by simp, ⟨by simp [hopl], by simp [husl], by dsimp only; omega, by dsimp only; omega, by simp; omega, by dsimp only; omega, ⟨_, rfl, ?_⟩,
                ((((hb8.keep hp9 (by decide)).keep hp10 (by decide)).keep hp11 (by decide)).keep hp12 (by decide)).keep hp13 (by decide),
                ((((hr8.keep hp9 (by decide)).keep hp10 (by decide)).keep hp11 (by decide)).keep hp12 (by decide)).keep hp13 (by decide),
                ((ho10.keep hp11 (by decide)).keep hp12 (by decide)).keep hp13 (by decide),
                (((hu9.keep hp10 (by decide)).keep hp11 (by decide)).keep hp12 (by decide)).keep hp13 (by decide), hap13, hss12.keep hp13 (by decide),
                ((((hds8.keep hp9 (by decide)).keep hp10 (by decide)).keep hp11 (by decide)).keep hp12 (by decide)).keep hp13 (by decide)⟩, by dsimp only; omega⟩
              rw [hr2, ← hr1]
              simp
            · have hfn := fnd_neg (k := rows.length) (rows := rows) (op := op) (us := us) (by omega)
              rw [hfn] at hst
              have ecol : fndCol rows op us rows.length = bestL op (cn rows.length) 0 := by unfold fndCol; rw [hfn]; rfl
              rw [ecol]
              have hmost : bestL op (cn rows.length) N = mostL rows op us := by
                unfold mostL
                rw [hopl]
                refine best_congr fun j _ hj => ?_
                rw [hcn]
                exact cnt_open _ _ _ hj
              have hmo := most_open (rows := rows) (us := us) hc'
              have hcl2 := hcl rows.length
              refine loop_inv (fun k : Nat => (bestL op (cn rows.length) k, (k : Int))) (fun k h' => h' = h8 ∧ k ≤ N) (fun k => N - k) 0 rfl ⟨rfl, by omega⟩ ?_
              rintro k h9 ⟨rfl, hk⟩
              dsimp only
              have hbl := best_lt op (cn rows.length) k
              refine br_dec (fun hlt => ?_) (fun hge => ?_)
              · have hk' : k < op.length := by omega
                refine (ho8.seqB fun _ => rfl).get1 k rfl hk' _ rfl ?_
                rw [wrap_small (k + 1) (by omega) (by omega)]
                have hok : op.getD k false = op[k] := getDb_lt hk'
                refine br_not (fun hb => ?_) (fun hb => ?_)
                · simp only [Bool.not_eq_false'] at hb
                  refine br_dec (fun hneg => ?_) (fun hnn => ?_)
                  · refine ⟨k + 1, ?_, ⟨rfl, by omega⟩, by omega⟩
                    rw [bestL, if_pos (by rw [hok, hb, decide_eq_true hneg]; rfl)]; rfl
                  · refine (hq8.seqB fun _ => rfl).get1 k rfl (by omega) _ rfl ?_
                    refine (hq8.seqB fun _ => rfl).get1 (bestL op (cn rows.length) k).toNat (by omega) (by omega) _ rfl ?_
                    have e1 : (cn rows.length).getD k 0 = (cn rows.length)[k] := getD_lt (by omega)
                    have e2 : (cn rows.length).getD (bestL op (cn rows.length) k).toNat 0 = (cn rows.length)[(bestL op (cn rows.length) k).toNat] := getD_lt (by omega)
                    refine br_dec (fun hgt => ?_) (fun hle => ?_)
                    · refine ⟨k + 1, ?_, ⟨rfl, by omega⟩, by omega⟩
                      rw [bestL, if_pos (by rw [hok, hb, e1, e2, decide_eq_true hgt]; simp)]; rfl
                    · refine ⟨k + 1, ?_, ⟨rfl, by omega⟩, by omega⟩
                      rw [bestL, if_neg (by rw [hok, hb, e1, e2, decide_eq_false hle, decide_eq_false hnn]; simp)]; rfl
                · simp only [Bool.not_eq_true'] at hb
                  refine ⟨k + 1, ?_, ⟨rfl, by omega⟩, by omega⟩
                  rw [bestL, if_neg (by rw [hok, hb]; simp)]; rfl
              · have hke : k = N := by omega
                subst hke
                rw [hmost]
                refine ho8.set C_ok (fun _ => rfl) rfl (mostL rows op us).toNat (by omega) (by omega) false rfl rfl rfl fun h10 ho10 hp10 => ?_
                refine ⟨ds, (hap8.keep (m := 3) hp10 (by decide)).box.cell rfl, ?_⟩
                refine runC_lit C_ok (hb8.keep (m := 3) hp10 (by decide)) 10 intv ⟨_, _, rfl, rfl, rfl, rfl, rfl, rfl⟩ rfl [mostL rows op us] rfl (Nat.le_of_ble_eq_true rfl) rfl fun v h11 hv11 hp11 => ?_
                refine ((hds8.keep (m := 3) hp10 (by decide)).keep (m := 10) hp11 (by decide)).append C_ok ⟨_, _, rfl, rfl, rfl, rfl, rfl, rfl⟩ ⟨_, _, rfl, rfl⟩ rfl (by decide) (fun _ => rfl) (hv11.seq fun _ => rfl) one_int (by simp; omega) fun ds' h12 hds12 hp12 => ?_
                refine (((hap8.keep (m := 3) hp10 (by decide)).keep (m := 10) hp11 (by decide)).keep (m := 7) hp12 (by decide)).store C_ok rfl 1 _ rfl rfl rfl (Nat.le_of_ble_eq_true rfl) fun h13 hap13 hp13 => ?_
                rw [wrap_small _ (by omega) (by omega)]
                have hcc := count_close (op := op) (j := (mostL rows op us).toNat) hmo.2.2
                rw [plan_dead hc' hst] at hr1
                refine ⟨(f', op.set (mostL rows op us).toNat false, us, st, dd ++ [mostL rows op us], _, ss, ds'), by simp, ⟨by simp [hopl], husl, by dsimp only; omega, by dsimp only; omega, by dsimp only; omega, by simp; omega, ⟨_, rfl, ?_⟩,
                  (((hb8.keep hp10 (by decide)).keep hp11 (by decide)).keep hp12 (by decide)).keep hp13 (by decide),
                  (((hr8.keep hp10 (by decide)).keep hp11 (by decide)).keep hp12 (by decide)).keep hp13 (by decide),
                  ((ho10.keep hp11 (by decide)).keep hp12 (by decide)).keep hp13 (by decide),
                  (((hu8.keep hp10 (by decide)).keep hp11 (by decide)).keep hp12 (by decide)).keep hp13 (by decide), hap13,
                  (((hss8.keep hp10 (by decide)).keep hp11 (by decide)).keep hp12 (by decide)).keep hp13 (by decide), hds12.keep hp13 (by decide)⟩, by dsimp only; omega⟩
                rw [hr2, ← hr1]
                simp
        · have hf0 : f = 0 := by omega
          subst hf0
          have hr3 : r = ⟨[], [], us⟩ := by rw [← hr1]; rfl
          subst hr3
          simp only [List.append_nil] at hr2
          refine loop_inv (fun t : Nat × (Nat → Nat) × Sl => (t.1 : Int)) (fun ⟨j, c, fs⟩ h' => j ≤ rows.length ∧ Base h h' c ∧
            BoxC h' c 1 a1 T_api_Plan [.slice none 0 0, .slice none 0 0, .slice none 0 0] ∧ OwnC h' c 4 T_bool u 1 boolv us ∧
            BoxC h' c 5 ap T_api_Plan [.slice ss.ptr ss.len ss.cap, .slice ds.ptr ds.len ds.cap, .slice fs.ptr fs.len fs.cap] ∧ OwnC h' c 6 T_api_Step ss 2 stepv st ∧ OwnC h' c 7 T_int ds 1 intv dd ∧ OwnC h' c 8 T_int fs 1 intv (leftL us j)) (fun t => rows.length - t.1) (0, c, ⟨none, 0, 0⟩) rfl
            ⟨by simp, hb6, hr6, hu6, hap6, hss6, hds6, OwnC.nil _ _ _ _ _ _⟩ ?_
          rintro ⟨j, c, fs⟩ h8 ⟨hj, hb8, hr8, hu8, hap8, hss8, hds8, hfs8⟩
          dsimp only at *
          refine br_dec (fun hlt => ?_) (fun hge => ?_)
          · have hj' : j < rows.length := by omega
            have hjl : (leftL us j).length ≤ j := left_le us j
            refine (hu8.seqB fun _ => rfl).get1 j rfl (by omega) _ rfl ?_
            have hug : us.getD j false = us[j] := getDb_lt (by omega)
            rw [wrap_small _ (by omega) (by omega)]
            refine br_not (fun hb => ?_) (fun hb => ?_)
            · refine ⟨fs, hap8.box.cell rfl, ?_⟩
              refine runC_lit C_ok hb8 9 intv ⟨_, _, rfl, rfl, rfl, rfl, rfl, rfl⟩ rfl [(j : Int)] rfl (Nat.le_of_ble_eq_true rfl) rfl fun v h9 hv9 hp9 => ?_
              refine (hfs8.keep (m := 9) hp9 (by decide)).append C_ok ⟨_, _, rfl, rfl, rfl, rfl, rfl, rfl⟩ ⟨_, _, rfl, rfl⟩ rfl (by decide) (fun _ => rfl) (hv9.seq fun _ => rfl) one_int (by simp; omega) fun fs' h10 hfs10 hp10 => ?_
              refine ((hap8.keep (m := 9) hp9 (by decide)).keep (m := 8) hp10 (by decide)).store C_ok rfl 2 _ rfl rfl rfl (Nat.le_of_ble_eq_true rfl) fun h11 hap11 hp11 => ?_
              refine ⟨(j + 1, _, fs'), by simp, ⟨by simp; omega, ((hb8.keep hp9 (by decide)).keep hp10 (by decide)).keep hp11 (by decide), ((hr8.keep hp9 (by decide)).keep hp10 (by decide)).keep hp11 (by decide), ((hu8.keep hp9 (by decide)).keep hp10 (by decide)).keep hp11 (by decide), hap11,
                ((hss8.keep hp9 (by decide)).keep hp10 (by decide)).keep hp11 (by decide), ((hds8.keep hp9 (by decide)).keep hp10 (by decide)).keep hp11 (by decide), ?_⟩, by simp; omega⟩
              have e : leftL us (j + 1) = leftL us j ++ [(j : Int)] := by rw [leftL, hug, hb]; rfl
              rw [e]
              exact hfs10.keep hp11 (by decide)
            · have e : leftL us (j + 1) = leftL us j := by rw [leftL, hug, hb]; rfl
              exact ⟨(j + 1, c, fs), by simp, ⟨by simp; omega, hb8, hr8, hu8, hap8, hss8, hds8, by rw [e]; exact hfs8⟩, by simp; omega⟩
          · have hje : j = rows.length := by omega
            subst hje
            refine ⟨(ss, ds, fs), hap8.box.cells0 _ rfl, ?_⟩
            refine hr8.store0 C_ok rfl _ rfl rfl rfl (Nat.le_refl _) fun h9 hr9 hp9 => ?_
            refine ⟨(ss, ds, fs), hr9.box.cells0 _ rfl, (hb8.keep (m := 1) hp9 (by decide)).pres, ?_⟩
            refine ⟨ss, ds, fs, by rw [hr], ?_⟩
            simp only [plOut, hr, if_true, Int.toNat_natCast, hr2]
            exact ⟨(hss8.keep (m := 1) hp9 (by decide)).seqB fun _ => rfl, (hds8.keep (m := 1) hp9 (by decide)).seqB fun _ => rfl, (hfs8.keep (m := 1) hp9 (by decide)).seqB fun _ => rfl⟩
end Go.Proofs.Ytlefjaiignpnaaa

namespace Go.Proofs.Ytlefjaiignpnaaa
open Go Go.Vc Go.Proofs Wl
set_option maxRecDepth 100000
def fieldsOf (d : Option TypeDesc) : List (Bool × TypeId × Nat) := match d with | some (.struct fs) => fs.toList.map (fun f => (f.name == "_", f.type, f.offset)) | _ => []
theorem step_fields : fieldsOf (Try.prog.underlying T_api_Step) = [(false, 3, 0), (false, 3, 1)] := by kernel_rfl
theorem step_stood : Try.prog.stoodInHeld T_api_Step = false := by kernel_rfl
theorem step_guard : Try.prog.eqGuardType Try.prog.depth T_api_Step = false := by kernel_rfl
theorem two_fields {P : Program} {t : TypeId} {a b : TypeId × Nat} (h : fieldsOf (P.underlying t) = [(false, a.1, a.2), (false, b.1, b.2)]) :
    ∃ f g : Field, P.underlying t = some (.struct #[f, g]) ∧ (f.name ≠ "_" ∧ f.type = a.1 ∧ f.offset = a.2) ∧ (g.name ≠ "_" ∧ g.type = b.1 ∧ g.offset = b.2) := by
  cases hu : P.underlying t with
  | none => rw [hu] at h; cases h
  | some d =>
    rw [hu] at h
    cases d with
    | struct fs =>
      simp only [fieldsOf] at h
      obtain ⟨l⟩ := fs
      have hl : l.length = 2 := by simpa using congrArg List.length h
      obtain ⟨f, r, rfl⟩ := List.exists_cons_of_length_eq_add_one hl
      obtain ⟨g, r2, rfl⟩ := List.exists_cons_of_length_eq_add_one (by simpa using hl : r.length = 0 + 1)
      obtain rfl : r2 = [] := by simpa using hl
      simp at h
      exact ⟨f, g, rfl, ⟨h.1.1, h.1.2.1, h.1.2.2⟩, ⟨h.2.1, h.2.2.1, h.2.2.2⟩⟩
    | _ => cases h
theorem always_int {P : Program} {d : Nat} {t : TypeId} {k : IntKind} (h : ∃ k', P.underlying t = some (.int k')) (a b : Int) : AlwaysV P (Op.equalIn (d + 1) t (.int k a) (.int k b)) (a == b) := by
  obtain ⟨k', h⟩ := h
  unfold Op.equalIn
  refine (always_underlying h).bind ?_
  simp only [if_true]
  exact .pure
theorem always_part {P : Program} {t : TypeId} {k : IntKind} (h : P.underlying t = some (.int k)) {cs : Array Value} {i : Nat} {v : Value} (hv : cs[i]? = some v) : AlwaysV P (part t cs i) v := by
  unfold part isAgg
  refine AlwaysV.bind (v := false) ((always_underlying h).bind .pure) ?_
  simp only [Bool.false_eq_true, if_false, hv]
  exact .pure
theorem step_eq (a b c d : Int) : AlwaysV Try.prog (Op.equal T_api_Step (.agg #[.int .i64 a, .int .i64 b]) (.agg #[.int .i64 c, .int .i64 d])) (decide ((a, b) = (c, d))) := by
  obtain ⟨f, g, hu, ⟨f1, f2, f3⟩, ⟨g1, g2, g3⟩⟩ := two_fields (a := (3, 0)) (b := (3, 1)) step_fields
  have hi : ∃ k, Try.prog.underlying 3 = some (.int k) := ⟨.i64, by kernel_rfl⟩
  obtain ⟨k, hk⟩ := hi
  unfold Op.equal
  rw [show Op.maxDepth = 9998 + 1 + 1 from rfl, Op.equalIn]
  refine (always_underlying hu).bind ?_
  refine AlwaysV.bind (v := Try.prog) (fun w => rfl) ?_
  simp only [step_stood, Bool.false_eq_true, if_false, List.forIn_toArray, List.forIn_cons, List.forIn_nil, ne_eq, f1, g1, not_false_eq_true, if_true, f2, f3, g2, g3]
  have p1 : AlwaysV Try.prog (part 3 #[Value.int IntKind.i64 a, Value.int IntKind.i64 b] 0) _ := always_part hk rfl
  have p2 : AlwaysV Try.prog (part 3 #[Value.int IntKind.i64 c, Value.int IntKind.i64 d] 0) _ := always_part hk rfl
  have p3 : AlwaysV Try.prog (part 3 #[Value.int IntKind.i64 a, Value.int IntKind.i64 b] 1) _ := always_part hk rfl
  have p4 : AlwaysV Try.prog (part 3 #[Value.int IntKind.i64 c, Value.int IntKind.i64 d] 1) _ := always_part hk rfl
  by_cases h1 : a = c
  · by_cases h2 : b = d
    · have e : decide ((a, b) = (c, d)) = true := by simp [h1, h2]
      rw [e]
      refine AlwaysV.bind (v := (none, ())) (AlwaysV.bind (v := ForInStep.yield (none, ())) (p1.bind (p2.bind ((always_int ⟨k, hk⟩ a c).bind ?_))) (AlwaysV.bind (v := ForInStep.yield (none, ())) (p3.bind (p4.bind ((always_int ⟨k, hk⟩ b d).bind ?_))) .pure)) .pure
      · simp only [h1, beq_self_eq_true, Bool.not_true, Bool.false_eq_true, if_false]; exact .pure
      · simp only [h2, beq_self_eq_true, Bool.not_true, Bool.false_eq_true, if_false]; exact .pure
    · have e : decide ((a, b) = (c, d)) = false := by simp [h2]
      rw [e]
      refine AlwaysV.bind (v := (some false, ())) (AlwaysV.bind (v := ForInStep.yield (none, ())) (p1.bind (p2.bind ((always_int ⟨k, hk⟩ a c).bind ?_))) (AlwaysV.bind (v := ForInStep.done (some false, ())) (p3.bind (p4.bind ((always_int ⟨k, hk⟩ b d).bind ?_))) .pure)) .pure
      · simp only [h1, beq_self_eq_true, Bool.not_true, Bool.false_eq_true, if_false]; exact .pure
      · rw [show (b == d) = false by simpa using h2]; simp only [Bool.not_false, if_true]; exact .pure
  · have e : decide ((a, b) = (c, d)) = false := by simp [h1]
    rw [e]
    refine AlwaysV.bind (v := (some false, ())) (AlwaysV.bind (v := ForInStep.done (some false, ())) (p1.bind (p2.bind ((always_int ⟨k, hk⟩ a c).bind ?_))) .pure) .pure
    rw [show (a == c) = false by simpa using h1]; simp only [Bool.not_false, if_true]; exact .pure
theorem step_neq (x y : Operand) (a b c d : Int) : RawBin Try.prog .neq T_api_Step x y (.agg #[.int .i64 a, .int .i64 b]) (.agg #[.int .i64 c, .int .i64 d]) (.bool (!decide ((a, b) = (c, d)))) := by
  unfold RawBin eqGuard
  refine AlwaysV.bind (v := ()) ?_ ?_
  · simp only [Bool.not_true, Bool.false_eq_true, if_false]
    refine AlwaysV.bind (v := Try.prog) (fun w => rfl) ?_
    refine AlwaysV.bind (v := Try.prog) (fun w => rfl) ?_
    simp only [step_guard, Bool.not_false, if_true]
    exact .pure
  · exact (step_eq a b c d).bind .pure
end Go.Proofs.Ytlefjaiignpnaaa

namespace Go.Proofs.Ytlefjaiignpnaaa
open Go Go.Vc Go.Proofs Wl
set_option maxRecDepth 100000
theorem Seq2.getA {α : Type} {h : Heap} {p : Blocks} {s : Sl} {k : Nat} {f : α → List Value} {ll : List (List α)} {rs : List Sl} (hs : Seq2 h p s k f ll rs) {i : Int} (n : Nat) (hi : i = n) (hn : n < ll.length) {K : Addr → Sl → Prop}
    (hk : ∀ a r, cellOf h (a.add (i.toNat * 1)) = some (.slice r.ptr r.len r.cap) → Seq h p r k f ll[n] → rs[n]? = some r → K a r) :
    ∃ a : Addr, (s.ptr = some a ∧ 0 ≤ i ∧ i < ((s.len : Nat) : Int)) ∧ ∃ x : Sl, cellOf h (a.add (i.toNat * 1)) = some (.slice x.ptr x.len x.cap) ∧ K a x := by
  obtain ⟨a, ha, x, hx, h1, h2⟩ := hs.get n hi hn (K := fun r => Seq h p r k f ll[n] ∧ rs[n]? = some r) (fun r h1 h2 => ⟨h1, h2⟩)
  exact ⟨a, ha, x, hx, hk a x hx h1 h2⟩

theorem same_step_spec {p q : Blocks} (a b : Sl) (la lb : List (Int × Int)) (h : Heap) (ha : Seq h p a 2 stepv la) (hb : Seq h q b 2 stepv lb) (hs : la.length ≤ 2 ^ 40) :
    Spec Try.prog wellspringkeep_Same_api_Step_id #[.slice a.ptr a.len a.cap, .slice b.ptr b.len b.cap] h fun v h' => v = .bool (decide (la = lb)) ∧ h' = h := by
  refine wellspringkeep_Same_api_Step_run a b ?_
  unfold wellspringkeep_Same_api_Step_m
  have hal := ha.len; have hbl := hb.len
  refine br_ne (fun hne => ?_) (fun heq => ?_)
  · refine ⟨?_, rfl⟩
    rw [decide_eq_false]
    intro e; subst e; omega
  · have hl : la.length = lb.length := by omega
    refine loop_inv (fun k : Nat => (k : Int)) (fun k h' => h' = h ∧ k ≤ la.length ∧ la.take k = lb.take k) (fun k => la.length - k) 0 rfl ⟨rfl, by omega, rfl⟩ ?_
    rintro k h' ⟨rfl, hk, ht⟩
    refine br_dec (fun hlt => ?_) (fun hge => ?_)
    · have hk' : k < la.length := by omega
      refine ha.getk (g := stepv) k rfl hk' la[k] rfl ?_
      refine hb.getk (g := stepv) k rfl (by omega) lb[k] rfl ?_
      refine ⟨_, step_neq _ _ _ _ _ _, ?_⟩
      rw [wrap_small _ (by omega) (by omega)]
      refine br_not (fun hd => ?_) (fun hd => ?_)
      · refine ⟨?_, rfl⟩
        rw [decide_eq_false]
        intro e; subst e
        exact of_decide_eq_false hd rfl
      · refine ⟨k + 1, by simp, ⟨rfl, by omega, ?_⟩, by omega⟩
        have hd := of_decide_eq_true hd
        rw [take_snoc _ _ hk', take_snoc lb k (by omega), ht]
        rw [show la[k] = lb[k] from hd]
    · refine ⟨?_, rfl⟩
      rw [List.take_of_length_le (by omega), List.take_of_length_le (by omega)] at ht
      rw [decide_eq_true ht]

theorem samePlan_spec {p : Blocks} (a b : Sl × Sl × Sl) (s1 s2 : List (Int × Int)) (d1 d2 f1 f2 : List Int) (h : Heap)
    (ha1 : Seq h (fun b => b < h.size) a.1 2 stepv s1) (ha2 : Seq h (fun b => b < h.size) a.2.1 1 intv d1) (ha3 : Seq h (fun b => b < h.size) a.2.2 1 intv f1)
    (hb1 : Seq h (fun b => b < h.size) b.1 2 stepv s2) (hb2 : Seq h (fun b => b < h.size) b.2.1 1 intv d2) (hb3 : Seq h (fun b => b < h.size) b.2.2 1 intv f2)
    (l1 : s1.length ≤ 2 ^ 40) (l2 : d1.length ≤ 2 ^ 40) (l3 : f1.length ≤ 2 ^ 40) (_ : p = p) :
    Spec Try.prog wellspringref11_SamePlan_id #[.agg #[.slice a.1.ptr a.1.len a.1.cap, .slice a.2.1.ptr a.2.1.len a.2.1.cap, .slice a.2.2.ptr a.2.2.len a.2.2.cap], .agg #[.slice b.1.ptr b.1.len b.1.cap, .slice b.2.1.ptr b.2.1.len b.2.1.cap, .slice b.2.2.ptr b.2.2.len b.2.2.cap]] h
      fun v h' => v = .bool (decide (s1 = s2) && (decide (d1 = d2) && decide (f1 = f2))) ∧ Pres (fun b => b < h.size) h h' := by
  refine wellspringref11_SamePlan_run a b ?_
  unfold wellspringref11_SamePlan_m
  refine runC_box _ (Base.refl h) 1 fun x h1 hx hp1 => ?_
  have hb1' := (Base.refl h).keep (m := 1) hp1 (by decide)
  refine runC_box _ hb1' 2 fun y h2 hy hp2 => ?_
  have hB := hb1'.keep (m := 2) hp2 (by decide)
  have hx2 := hx.keep (m := 2) hp2 (by decide)
  have hpr := hB.pres
  refine ⟨_, hx2.box.cell0 rfl, _, hy.box.cell0 rfl, ?_⟩
  refine (same_step_spec _ _ s1 s2 h2 (ha1.pres hpr) (hb1.pres hpr) l1).mono ?_
  rintro v h3 ⟨rfl, rfl⟩
  refine ⟨_, rfl, ?_⟩
  refine br_b (fun e1 => ?_) (fun e1 => ⟨by rw [e1]; rfl, hpr⟩)
  refine ⟨_, hx2.box.cell rfl, _, hy.box.cell rfl, ?_⟩
  refine (same_int_spec _ _ d1 d2 h3 (ha2.pres hpr) (hb2.pres hpr) l2).mono ?_
  rintro v h4 ⟨rfl, rfl⟩
  refine ⟨_, rfl, ?_⟩
  refine br_b (fun e2 => ?_) (fun e2 => ⟨by rw [e1, e2]; rfl, hpr⟩)
  refine ⟨_, hx2.box.cell rfl, _, hy.box.cell rfl, ?_⟩
  refine (same_int_spec _ _ f1 f2 h4 (ha3.pres hpr) (hb3.pres hpr) l3).mono ?_
  rintro v h5 ⟨rfl, rfl⟩
  exact ⟨_, rfl, by rw [e1, e2]; rfl, hpr⟩

theorem rows_int_spec {p q : Blocks} (a b : Sl) (la lb : List (List Int)) (ra rb : List Sl) (h : Heap) (ha : Seq2 h p a 1 intv la ra) (hb : Seq2 h q b 1 intv lb rb) (hs : la.length ≤ 2 ^ 40) (hss : ∀ r ∈ la, r.length ≤ 2 ^ 40) :
    Spec Try.prog wellspringkeep_Rows_int_id #[.slice a.ptr a.len a.cap, .slice b.ptr b.len b.cap] h fun v h' => v = .bool (decide (la = lb)) ∧ h' = h := by
  refine wellspringkeep_Rows_int_run a b ?_
  unfold wellspringkeep_Rows_int_m
  have hal := ha.slen; have hbl := hb.slen
  refine br_ne (fun hne => ?_) (fun heq => ?_)
  · refine ⟨?_, rfl⟩
    rw [decide_eq_false]
    intro e; subst e; omega
  · have hl : la.length = lb.length := by omega
    refine loop_inv (fun k : Nat => (k : Int)) (fun k h' => h' = h ∧ k ≤ la.length ∧ la.take k = lb.take k) (fun k => la.length - k) 0 rfl ⟨rfl, by omega, rfl⟩ ?_
    rintro k h' ⟨rfl, hk, ht⟩
    refine br_dec (fun hlt => ?_) (fun hge => ?_)
    · have hk' : k < la.length := by omega
      refine Seq2.getA ha k rfl hk' fun a1 r1 hc1 hr1 _ => ?_
      refine Seq2.getA hb k rfl (by omega) fun a2 r2 hc2 hr2 _ => ?_
      refine (same_int_spec r1 r2 la[k] lb[k] h' hr1 hr2 (hss _ (List.getElem_mem hk'))).mono ?_
      rintro v h3 ⟨rfl, rfl⟩
      refine ⟨_, rfl, ⟨hc2, hc1, trivial⟩, ?_⟩
      rw [wrap_small _ (by omega) (by omega)]
      refine br_not (fun hd => ?_) (fun hd => ?_)
      · refine ⟨?_, rfl⟩
        rw [decide_eq_false]
        intro e; subst e
        exact of_decide_eq_false hd rfl
      · refine ⟨k + 1, by simp, ⟨rfl, by omega, ?_⟩, by omega⟩
        have hd := of_decide_eq_true hd
        rw [take_snoc _ _ hk', take_snoc lb k (by omega), ht]
        rw [show la[k] = lb[k] from hd]
    · refine ⟨?_, rfl⟩
      rw [List.take_of_length_le (by omega), List.take_of_length_le (by omega)] at ht
      rw [decide_eq_true ht]

theorem spare_spec {p : Blocks} (a : Sl) (la : List Int) (x : Int) (h : Heap) (ha : Seq h p a 1 intv la) (hs : la.length ≤ 2 ^ 30) :
    Spec Try.prog wellspringkeep_Spare_int_id #[.slice a.ptr a.len a.cap, .int .i64 x] h fun v h' => Pres (fun b => b < h.size) h h' ∧ ∃ s : Sl, v = .slice s.ptr s.len s.cap ∧ Seq h' (fun b => h.size ≤ b ∧ b < h'.size) s 1 intv la := by
  refine wellspringkeep_Spare_int_run a x ?_
  unfold wellspringkeep_Spare_int_m
  have hal := ha.len
  rw [wrap_small _ (by omega) (by omega)]
  refine run_make (f := intv) C_ok ⟨_, _, rfl, rfl, rfl, rfl, rfl, rfl⟩ (by decide) 0 rfl rfl la.length (la.length + 2) (by omega) (by omega) (by omega) (by omega) fun s h1 hown hsp hsc hpres hsz => ?_
  have hon : ∀ b, s.on b → b = h.size := by rintro b ⟨o, ho⟩; rw [hsp] at ho; cases ho; rfl
  refine hown.copy C_ok ⟨_, _, rfl, rfl, rfl, rfl, rfl, rfl⟩ (fun _ => rfl) (ha.pres (hpres.mono fun _ _ _ => trivial)) (by simp) one_int fun h2 hown2 hp2 hsz2 => ?_
  refine ⟨by omega, ?_⟩
  refine loop_inv (fun k : Nat => (k : Int)) (fun k h' => la.length ≤ k ∧ k ≤ s.cap ∧ Pres (fun b => b < h.size) h h' ∧ Own h' T_int s 1 intv la) (fun k => s.cap - k) la.length (by rw [hal]) ⟨by omega, by omega, ?_, hown2⟩ ?_
  · exact (hpres.mono fun _ _ _ => trivial).then hp2 fun b hb _ hh => by have := hon b hh; omega
  rintro k h3 ⟨hk1, hk2, hp3, hown3⟩
  refine br_dec (fun hlt => ?_) (fun hge => ?_)
  · refine hown3.poke C_ok (fun _ => rfl) rfl k _ rfl hk1 (by omega) (by simp) x rfl rfl rfl fun h4 hown4 hp4 hsz4 => ?_
    rw [wrap_small _ (by omega) (by omega)]
    exact ⟨k + 1, by simp, ⟨by omega, by omega, hp3.then hp4 fun b hb _ hh => by have := hon b hh; omega, hown4⟩, by omega⟩
  · exact ⟨hp3, s, rfl, hown3.seq (fun _ => rfl) fun b hb => ⟨by have := hon b hb; omega, hown3.lt hb⟩⟩

theorem wakes_spec (h : Heap) : Spec Try.prog wellspringlaw13_wakes_id #[] h fun v h' => v = .bool true ∧ Pres (fun b => b < h.size) h h' := by
  refine wellspringlaw13_wakes_run ?_
  unfold wellspringlaw13_wakes_m
  have hnil : Seq2 h (fun b => b < h.size) ⟨none, 0, 0⟩ 1 intv [] [] := ⟨Seq.nil _ _ _ _ _ _, rfl, fun i r l hh => by simp at hh⟩
  refine (plan_spec 1 ⟨none, 0, 0⟩ [] [] h hnil (by simp) (by simp)).mono ?_
  rintro v h1 ⟨hp1, s, d, f, rfl, hs, hd, hf⟩
  have e : plOut 1 [] = ([], [0], []) := by decide
  rw [e] at hs hd hf
  refine ⟨((s, d, f), _), rfl, ?_⟩
  dsimp only
  refine runC_alloc C_ok (Base.refl h1) 1 rfl fun a h2 ha hp2 => ?_
  refine ha.store0 C_ok rfl _ rfl rfl rfl (Nat.le_refl _) fun h3 ha3 hp3 => ?_
  have hB := ((Base.refl h1).keep (m := 1) hp2 (by decide)).keep (m := 1) hp3 (by decide)
  refine br_t (by decide) ?_
  refine ⟨s, ha3.box.cell0 rfl, ?_⟩
  have hsl := hs.len
  refine br_eq (fun _ => ?_) (fun hh => absurd hh (by simp at hsl; omega))
  refine ⟨d, ha3.box.cell rfl, ?_⟩
  refine run_lit (f := intv) C_ok ⟨_, _, rfl, rfl, rfl, rfl, rfl, rfl⟩ rfl [0] rfl (by decide) rfl fun w h4 hw hwp hp4 _ => ?_
  have hpr := hp1.trans ((hB.pres.then hp4 fun _ _ _ => trivial).mono fun b hb hb' => Nat.lt_of_lt_of_le hb' hp1.1)
  refine (same_int_spec d w [0] [0] h4 ((hd.pres hB.pres).pres (hp4.mono fun _ _ _ => trivial)) (hw.seq (p := fun _ => True) (fun _ => rfl) fun _ _ => trivial) (by decide)).mono ?_
  rintro v h5 ⟨rfl, rfl⟩
  exact ⟨_, rfl, rfl, hpr⟩

/-! ### Rows of numbers -/
def bitB (x c : Int) : Bool := (IntKind.wrap .i64 ((BitVec.ofInt (IntKind.bits .i64) (Int.fdiv x (2 ^ min (Int.tmod c (30 : Int)).toNat (IntKind.bits .i64))) &&& (BitVec.ofInt (IntKind.bits .i64) (1 : Int))).toNat : Nat)) == (1 : Int) &&
  decide ((Int.tmod (IntKind.wrap .i64 ((Int.fdiv x (2 ^ min (30 : Int).toNat (IntKind.bits .i64))) + c)) (4 : Int)) > (1 : Int))
def rowU (x : Int) : Nat → List Int
  | 0 => []
  | k + 1 => if bitB x k then rowU x k ++ [(k : Int)] else rowU x k
def rowsL (la : List Int) (n most : Nat) : List (List Int) := (la.take most).map fun x => rowU x n
theorem rowU_le (x : Int) : ∀ n, (rowU x n).length ≤ n
  | 0 => by simp [rowU]
  | k + 1 => by
    have := rowU_le x k
    unfold rowU
    split <;> simp <;> omega
theorem rowU_in (x : Int) : ∀ n, ∀ c ∈ rowU x n, 0 ≤ c ∧ c < n
  | 0, c, h => by simp [rowU] at h
  | k + 1, c, h => by
    unfold rowU at h
    split at h
    · rcases List.mem_append.1 h with h | h
      · have := rowU_in x k c h; omega
      · simp at h; omega
    · have := rowU_in x k c h; omega
theorem rises_end : ∀ {l : List Int} {b : Int}, risesB l = true → (∀ c ∈ l, c < b) → risesB (l ++ [b]) = true
  | [], b, _, _ => rfl
  | [x], b, _, h => by simp [risesB, h x (by simp)]
  | x :: y :: t, b, hr, h => by
    simp only [risesB, Bool.and_eq_true] at hr
    have := rises_end (l := y :: t) (b := b) hr.2 fun c hc => h c (by simp only [List.mem_cons] at hc ⊢; exact .inr hc)
    simp only [List.cons_append, risesB, Bool.and_eq_true] at this ⊢
    exact ⟨hr.1, this⟩
theorem rowU_rises (x : Int) : ∀ n, risesB (rowU x n) = true
  | 0 => rfl
  | k + 1 => by
    unfold rowU
    split
    · exact rises_end (rowU_rises x k) fun c hc => (rowU_in x k c hc).2
    · exact rowU_rises x k
theorem rowU_ok (x : Int) (n : Nat) : rowOk n (rowU x n) = true := by
  simp only [rowOk, Bool.and_eq_true, List.all_eq_true, decide_eq_true_eq]
  exact ⟨rowU_in x n, rowU_rises x n⟩

set_option maxHeartbeats 4000000 in
theorem lawRows_spec {p : Blocks} (a : Sl) (la : List Int) (N M : Nat) (h : Heap) (ha : Seq h p a 1 intv la) (hpb : ∀ b, p b → b < h.size) (hN : N ≤ 2 ^ 20) (hM : M ≤ 2 ^ 20) :
    Spec Try.prog wellspringlaw13_Rows_id #[.slice a.ptr a.len a.cap, .int .i64 N, .int .i64 M] h fun v h' => ∃ (c : Nat → Nat) (s : Sl) (rs : List Sl), Base h h' c ∧ v = .slice s.ptr s.len s.cap ∧ RowsC h' c 1 10 T_sl_int s 1 intv (rowsL la N M) rs := by
  refine wellspringlaw13_Rows_run a N M ?_
  unfold wellspringlaw13_Rows_m
  have hal := ha.len
  refine join_cut (fun s h' => ∃ (c : Nat → Nat) (rs : List Sl), Base h h' c ∧ RowsC h' c 1 10 T_sl_int s 1 intv (rowsL la N M) rs) ?_ ?_
  · refine loop_inv (fun t : Nat × (Nat → Nat) × Sl × List Sl => (t.2.2.1, (t.1 : Int))) (fun ⟨k, c, s, rs⟩ h' => k ≤ la.length ∧ k ≤ M ∧ Base h h' c ∧ RowsC h' c 1 10 T_sl_int s 1 intv (rowsL la N k) rs) (fun t => la.length - t.1) (0, fun _ => 0, ⟨none, 0, 0⟩, []) rfl
      ⟨by simp, by simp, Base.refl h, RowsC.nil _ _ _ _ _ _ _⟩ ?_
    rintro ⟨k, c, s, rs⟩ h1 ⟨hk, hkM, hB, hR⟩
    dsimp only at *
    have done : k = la.length ∨ k = M → ∃ (c : Nat → Nat) (rs : List Sl), Base h h1 c ∧ RowsC h1 c 1 10 T_sl_int s 1 intv (rowsL la N M) rs := by
      intro hd
      have e : rowsL la N k = rowsL la N M := by
        unfold rowsL
        rcases hd with rfl | rfl
        · rw [List.take_of_length_le (Nat.le_refl _), List.take_of_length_le (by omega)]
        · rfl
      rw [e] at hR
      exact ⟨c, rs, hB, hR⟩
    refine join_in ?_
    refine br_dec (fun hlt => br_dec (fun hlt2 => ?_) (fun hge => done (by omega))) (fun hge => done (by omega))
    have hk' : k < la.length := by omega
    have hkl : (rowsL la N k).length = k := by simp [rowsL]; omega
    refine loop_inv (fun t : Nat × (Nat → Nat) × Sl => (t.2.2, (t.1 : Int))) (fun ⟨j, c, r⟩ h' => j ≤ N ∧ Base h h' c ∧ RowsC h' c 1 10 T_sl_int s 1 intv (rowsL la N k) rs ∧ OwnC h' c (10 + k) T_int r 1 intv (rowU la[k] j)) (fun t => N - t.1) (0, c, ⟨none, 0, 0⟩) rfl
      ⟨by simp, hB, hR, OwnC.nil _ _ _ _ _ _⟩ ?_
    clear hB hR
    rintro ⟨j, c, r⟩ h2 ⟨hj, hB, hR, hr⟩
    dsimp only at *
    have ha2 := ha.pres (hB.pres.mono fun b _ hb => hpb b hb)
    refine br_dec (fun hjl => ?_) (fun hjg => ?_)
    · refine ha2.get1 k rfl hk' _ rfl ?_
      have hju := rowU_le la[k] j
      have h0 : 0 ≤ Int.tmod (j : Int) 30 := Int.tmod_nonneg _ (by omega)
      refine ⟨by decide, h0, ?_⟩
      rw [wrap_small ((j : Int) + 1) (by omega) (by omega)]
      have no : bitB la[k] j = false → ∃ t' : Nat × (Nat → Nat) × Sl, ((r, (j : Int) + 1) : Sl × Int) = (t'.2.2, (t'.1 : Int)) ∧ (t'.1 ≤ N ∧ Base h h2 t'.2.1 ∧ RowsC h2 t'.2.1 1 10 T_sl_int s 1 intv (rowsL la N k) rs ∧ OwnC h2 t'.2.1 (10 + k) T_int t'.2.2 1 intv (rowU la[k] t'.1)) ∧ N - t'.1 < N - j := fun hb =>
        ⟨(j + 1, c, r), by simp, ⟨by simp; omega, hB, hR, by dsimp only; rw [rowU, hb]; exact hr⟩, by simp; omega⟩
      refine br_b (fun hb1 => ?_) (fun hb1 => ?_)
      · refine ha2.get1 k rfl hk' _ rfl ?_
        refine ⟨by decide, by decide, ?_⟩
        refine br_b (fun hb2 => ?_) (fun hb2 => ?_)
        · refine hr.push C_ok ⟨_, _, rfl, rfl, rfl, rfl, rfl, rfl⟩ rfl (by decide) (fun _ => rfl) one_int (j : Int) rfl (by decide) (by omega) fun r' h3 hr3 hp3 => ?_
          refine ⟨(j + 1, grow c h2.size (10 + k), r'), by simp, ⟨by simp; omega, hB.keep hp3 (by omega), hR.keep hp3 (by omega) (by omega), ?_⟩, by simp; omega⟩
          dsimp only
          rw [rowU, show bitB la[k] j = true by unfold bitB; rw [hb1, hb2]; rfl]
          exact hr3
        · exact no (by unfold bitB; rw [hb1, hb2]; rfl)
      · exact no (by unfold bitB; rw [hb1]; rfl)
    · have hjN : j = N := by omega
      subst hjN
      refine hR.push C_ok ⟨_, _, rfl, rfl, rfl, rfl, rfl, rfl⟩ (x := rowU la[k] j) (hr.own.seq (fun _ => rfl) fun b hb => ⟨hr.own.lt hb, by rw [hkl]; exact hr.col b hb⟩) (by omega) (by omega) fun s' h3 hR3 hp3 => ?_
      rw [wrap_small ((k : Int) + 1) (by omega) (by omega)]
      refine ⟨(k + 1, grow c h2.size 1, s', rs ++ [r]), by simp, ⟨by simp; omega, by simp; omega, hB.keep hp3 (by decide), ?_⟩, by simp; omega⟩
      have e : rowsL la j (k + 1) = rowsL la j k ++ [rowU la[k] j] := by
        unfold rowsL; rw [take_snoc _ _ hk', List.map_append]; rfl
      dsimp only
      rw [e]
      exact hR3
  · rintro s h' ⟨c, rs, hB, hR⟩
    exact ⟨c, s, rs, hB, rfl, hR⟩
end Go.Proofs.Ytlefjaiignpnaaa

namespace Go.Proofs.Ytlefjaiignpnaaa
open Go Go.Vc Go.Proofs Wl
set_option maxRecDepth 100000
theorem up {h h1 h2 : Heap} (a : Pres (fun b => b < h.size) h h1) (b : Pres (fun b => b < h1.size) h1 h2) : Pres (fun b => b < h.size) h h2 :=
  a.then b fun _ hb _ => Nat.lt_of_lt_of_le hb a.1
theorem any {h h1 : Heap} (a : Pres (fun _ => True) h h1) : Pres (fun b => b < h.size) h h1 := a.mono fun _ _ _ => trivial
theorem plOut_len (n : Int) (rows : List (List Int)) (hr : rows.length ≤ 2 ^ 30) : (plOut n rows).1.length ≤ 64 ∧ (plOut n rows).2.1.length ≤ 64 ∧ (plOut n rows).2.2.length ≤ 2 ^ 30 := by
  unfold plOut
  by_cases h : rightB n rows = true
  · rw [if_pos h]
    obtain ⟨h1, h2, _⟩ := right_n h
    have := plan_len rows n.toNat (List.replicate n.toNat true) (List.replicate rows.length false)
    have h3 := left_le (planL n.toNat rows).used rows.length
    unfold planL at *
    refine ⟨?_, ?_, ?_⟩
    · show (planRun _ _ _ _).steps.length ≤ 64; omega
    · show (planRun _ _ _ _).dead.length ≤ 64; omega
    · exact Nat.le_trans h3 hr
  · rw [if_neg h]; simp

/-- Both plans of rows, and what is then asked of them. -/
def xsOk (h : Heap) (t : Sl × List (List Int) × List Sl) : Prop := Seq2 h (fun b => b < h.size) t.1 1 intv t.2.1 t.2.2 ∧ t.2.1.length ≤ 64 ∧ ∀ r ∈ t.2.1, r.length ≤ 64
theorem xsOk.up {h h' : Heap} {t : Sl × List (List Int) × List Sl} (hx : xsOk h t) (hp : Pres (fun b => b < h.size) h h') : xsOk h' t := ⟨Seq2.up hx.1 hp, hx.2⟩

set_option maxHeartbeats 8000000 in
theorem planTells_spec (n : Int) (l m : Sl) (ll : List (List Int)) (rs : List Sl) (ml : List Int) (h : Heap) (hl : Seq2 h (fun b => b < h.size) l 1 intv ll rs) (hm : Seq h (fun b => b < h.size) m 1 intv ml) :
    Spec Try.prog wellspringlaw13_PlanTells_id #[.int .i64 n, .slice l.ptr l.len l.cap, .slice m.ptr m.len m.cap] h fun v h' => v = .bool true ∧ Pres (fun b => b < h.size) h h' := by
  refine wellspringlaw13_PlanTells_run n l m ?_
  unfold wellspringlaw13_PlanTells_m
  have hll := hl.slen
  have wake : ∀ {h' : Heap}, Pres (fun b => b < h.size) h h' → CallM Try.prog 7 #[] (.one (.sc .bool)) h' fun r1 h1 => (fun v h' => v = Value.bool true ∧ Pres (fun b => b < h.size) h h') (.bool r1) h1 := by
    intro h' hp
    refine (wakes_spec h').mono ?_
    rintro v h1 ⟨rfl, hp1⟩
    exact ⟨true, rfl, rfl, up hp hp1⟩
  refine br_dec (fun _ => wake (Pres.refl _ _)) (fun hle => ?_)
  have hlen : ll.length ≤ 24 := by omega
  refine loop_inv (fun k : Nat => (k : Int)) (fun k h' => h' = h ∧ k ≤ ll.length ∧ ∀ r ∈ ll.take k, r.length ≤ 24) (fun k => ll.length - k) 0 rfl ⟨rfl, by omega, by simp⟩ ?_
  rintro k h' ⟨rfl, hk, hsh⟩
  refine br_dec (fun hlt => ?_) (fun hge => ?_)
  · have hk' : k < ll.length := by omega
    refine hl.get k rfl hk' fun r hr _ => ?_
    have hrl := hr.len
    refine br_dec (fun _ => wake (Pres.refl _ _)) (fun hle => ?_)
    rw [wrap_small _ (by omega) (by omega)]
    refine ⟨k + 1, by simp, ⟨rfl, by omega, fun x hx => ?_⟩, by omega⟩
    rw [take_snoc _ _ hk'] at hx
    rcases List.mem_append.1 hx with hx | hx
    · exact hsh x hx
    · simp at hx; subst hx; omega
  · rw [List.take_of_length_le (by omega)] at hsh
    clear hge hk k
    refine (within_spec n 20 h' (by decide) (by decide)).mono ?_
    rintro v h1 ⟨rfl, rfl⟩
    have hm0 := Int.emod_nonneg n (show (20 : Int) ≠ 0 by decide)
    have hm1 := Int.emod_lt_of_pos n (show (0 : Int) < 20 by decide)
    obtain ⟨K, hK⟩ : ∃ K : Nat, n % 20 = K := ⟨(n % 20).toNat, by omega⟩
    rw [hK] at hm1 ⊢
    have hKs : K ≤ 2 ^ 20 := by omega
    refine ⟨_, rfl, ?_⟩
    refine (lawRows_spec m ml K 24 h1 hm (fun _ hb => hb) hKs (by decide)).mono ?_
    rintro v h2 ⟨c2, s2, rs2, hB2, rfl, hR2⟩
    refine ⟨s2, rfl, ?_⟩
    refine (lawRows_spec m ml K 12 h2 (Seq.up hm hB2.pres) (fun _ hb => hb) hKs (by decide)).mono ?_
    rintro v h3 ⟨c3, s3, rs3, hB3, rfl, hR3⟩
    refine ⟨s3, rfl, ?_⟩
    have hp13 := up hB2.pres hB3.pres
    have hl3 := Seq2.up hl hp13
    have hx2 := Seq2.up hR2.seq2 hB3.pres
    have bound : ∀ M, M ≤ 24 → (rowsL ml K M).length ≤ 24 ∧ ∀ r ∈ rowsL ml K M, r.length ≤ 24 := by
      intro M hM
      unfold rowsL
      refine ⟨by simp; omega, fun r hr => ?_⟩
      obtain ⟨x, _, rfl⟩ := List.mem_map.1 hr
      have := rowU_le x K
      omega
    have hb24 := bound 24 (by decide)
    have hb12 := bound 12 (by decide)
    have hrs3 := hR3.len
    refine hR3.own.append C_ok ⟨_, _, rfl, rfl, rfl, rfl, rfl, rfl⟩ ⟨_, _, rfl, rfl⟩ rfl (by decide) (fun _ => rfl) hl3.top one_sl (by have := hl.len; omega) fun s4 h4 hs4 hp4 => ?_
    have hB4 := hB3.keep (m := 1) hp4 (by decide)
    have hx3 : Seq2 h4 (fun b => b < h4.size) s4 1 intv (rowsL ml K 12 ++ ll) (rs3 ++ rs) := ⟨hs4.seqB fun _ => rfl, by simp [hrs3, hl.len], fun i r q h1' h2' => by
      by_cases hi : i < rs3.length
      · rw [List.getElem?_append_left hi] at h1'
        rw [List.getElem?_append_left (by omega)] at h2'
        refine ((hR3.row i r q h1' h2').pres (hp4.mono fun b _ hb => by omega)).mono fun b hb => Nat.lt_of_lt_of_le hb.1 hp4.1
      · rw [List.getElem?_append_right (by omega)] at h1'
        rw [List.getElem?_append_right (by omega)] at h2'
        have e : i - rs3.length = i - (rowsL ml K 12).length := by rw [hrs3]
        rw [e] at h1'
        have := (Seq2.up hl hB2.pres).row _ r q h1' h2'
        exact Seq.up this hB4.pres⟩
    have hp14 : Pres (fun b => b < h1.size) h1 h4 := up hB2.pres hB4.pres
    have hx1 := Seq2.up hl hp14
    have hx2 := Seq2.up hR2.seq2 hB4.pres
    obtain ⟨xs, hxs⟩ : ∃ xs : List (Sl × List (List Int) × List Sl), xs = [(l, ll, rs), (s2, rowsL ml K 24, rs2), (s4, rowsL ml K 12 ++ ll, rs3 ++ rs)] := ⟨_, rfl⟩
    have hok : ∀ t ∈ xs, xsOk h4 t := by
      intro t ht
      rw [hxs] at ht
      simp only [List.mem_cons, List.not_mem_nil, or_false] at ht
      rcases ht with rfl | rfl | rfl
      · exact ⟨hx1, by dsimp only; omega, fun r hr => Nat.le_trans (hsh r hr) (by decide)⟩
      · exact ⟨hx2, by dsimp only; omega, fun r hr => Nat.le_trans (hb24.2 r hr) (by decide)⟩
      · refine ⟨hx3, by dsimp only; rw [List.length_append]; omega, fun r hr => ?_⟩
        rcases List.mem_append.1 hr with hr | hr
        · exact Nat.le_trans (hb12.2 r hr) (by decide)
        · exact Nat.le_trans (hsh r hr) (by decide)
    refine run_lit (f := slv) C_ok ⟨_, _, rfl, rfl, rfl, rfl, rfl, rfl⟩ rfl [l, s2, s4] rfl (Nat.le_of_ble_eq_true rfl) rfl fun w h5 hw hwp hp5 _ => ?_
    have hw5 : Seq h5 (fun b => b < h5.size) w 1 (fun t : Sl × List (List Int) × List Sl => slv t.1) xs := by
      have := hw.seq (p := fun b => b < h5.size) (fun _ => rfl) fun b hb => hw.lt hb
      refine ⟨by rw [this.len, hxs]; rfl, fun i x hx => ?_⟩
      refine this.elem i x.1 ?_
      have := congrArg (Option.map (·.1)) hx
      rw [← List.getElem?_map, hxs] at this
      exact this
    have hp15 := up hp14 (any hp5)
    have hok : ∀ t ∈ xs, xsOk h5 t := fun t ht => (hok t ht).up (any hp5)
    have hwl := hw.len
    have hxl : xs.length = 3 := by rw [hxs]; rfl
    clear hxs hx1 hx2 hx3 hw hwp hB2 hB3 hB4 hR2 hR3 hl3 hs4 hl hm
    refine loop_inv (fun i : Nat => (i : Int)) (fun i h' => i ≤ 3 ∧ Pres (fun b => b < h5.size) h5 h') (fun i => 3 - i) 0 rfl ⟨by decide, Pres.refl _ _⟩ ?_
    rintro i h6 ⟨hi, hp6⟩
    have hwl2 : w.len = 3 := by rw [hwl]; rfl
    refine br_dec (fun hlt => ?_) (fun hge => wake (up hp15 hp6))
    have hi' : i < xs.length := by omega
    refine (Seq.up hw5 hp6).get1 i rfl hi' xs[i].1 rfl ?_
    have hx6 := (hok _ (List.getElem_mem hi')).up hp6
    obtain ⟨⟨x, xl, xr⟩, hxe⟩ : ∃ t, t = xs[i] := ⟨_, rfl⟩
    rw [← hxe] at hx6 ⊢
    dsimp only
    obtain ⟨hx6, hxl1, hxl2⟩ := hx6
    dsimp only at hx6 hxl1 hxl2
    refine join_cut (fun _ h' => h' = h6) (br_eq (fun _ => rfl) (fun _ => rfl)) ?_
    rintro c h' rfl
    have hxlen := hx6.slen
    refine loop_inv (fun t : Nat × (Nat → Nat) × Sl × List Sl => (t.2.2.1, (t.1 : Int))) (fun ⟨j, c, s, rs⟩ h7 => j ≤ xl.length ∧ Base h' h7 c ∧ RowsC h7 c 1 10 T_sl_int s 1 intv (xl.take j) rs) (fun t => xl.length - t.1) (0, fun _ => 0, ⟨none, 0, 0⟩, []) rfl
      ⟨by simp, Base.refl _, RowsC.nil _ _ _ _ _ _ _⟩ ?_
    rintro ⟨j, co, s, rs'⟩ h7 ⟨hj, hB7, hR7⟩
    dsimp only at *
    refine br_dec (fun hlt => ?_) (fun hge => ?_)
    · have hj' : j < xl.length := by omega
      refine (Seq2.up hx6 hB7.pres).get j rfl hj' fun r hr _ => ?_
      refine (spare_spec r xl[j] 71 h7 hr (Nat.le_trans (hxl2 _ (List.getElem_mem hj')) (by decide))).mono ?_
      rintro v h8 ⟨hp8, y, rfl, hy⟩
      refine ⟨y, rfl, ?_⟩
      have hp8 : Pres (fun b => co b ≠ 10 + j) h7 h8 := hp8.mono fun b hb _ => hb
      have htl : (xl.take j).length = j := by simp; omega
      refine (hR7.keep (m := 10 + j) hp8 (by omega) (by omega)).push C_ok ⟨_, _, rfl, rfl, rfl, rfl, rfl, rfl⟩ (x := xl[j]) (hy.mono fun b hb => ⟨hb.2, by rw [grow_new hb.1, htl]⟩) (by omega) (by omega) fun s' h9 hR9 hp9 => ?_
      rw [wrap_small _ (by omega) (by omega)]
      refine ⟨(j + 1, grow (grow co h7.size (10 + j)) h8.size 1, s', rs' ++ [y]), by simp, ⟨by simp; omega, (hB7.keep hp8 (by omega)).keep hp9 (by decide), ?_⟩, by simp; omega⟩
      dsimp only
      rw [take_snoc _ _ hj']
      exact hR9
    · have hje : j = xl.length := by omega
      subst hje
      rw [List.take_length] at hR7
      have hin := hR7.seq2
      have hp7 := up hp6 hB7.pres
      have hx7 := Seq2.up hx6 hB7.pres
      refine (plan_spec c s xl rs' h7 hin (by omega) (fun r hr => Nat.le_trans (hxl2 r hr) (by decide))).mono ?_
      rintro v h8 ⟨hp8, s1, d1, f1, rfl, hs1, hd1, hf1⟩
      refine ⟨((s1, d1, f1), _), rfl, ?_⟩
      dsimp only
      refine runC_alloc C_ok (Base.refl h8) 1 rfl fun a1 h9 ha1 hp9 => ?_
      refine ha1.store0 C_ok rfl _ rfl rfl rfl (Nat.le_refl _) fun h10 ha10 hp10 => ?_
      have hB10 := ((Base.refl h8).keep (m := 1) hp9 (by decide)).keep (m := 1) hp10 (by decide)
      have hx10 := Seq2.up hx7 (up hp8 hB10.pres)
      refine (refPlan_spec c x xl xr h10 hx10 (by omega) (fun r hr => Nat.le_trans (hxl2 r hr) (by decide))).mono ?_
      rintro v h11 ⟨hp11, s2', d2, f2, rfl, hs2, hd2, hf2⟩
      refine ⟨((s2', d2, f2), _), rfl, ?_⟩
      dsimp only
      have ha11 := ha10.box.pres hp11 ha10.box.lt
      refine runC_alloc C_ok (Base.refl h11) 1 rfl fun a2 h12 ha2 hp12 => ?_
      refine ha2.store0 C_ok rfl _ rfl rfl rfl (Nat.le_refl _) fun h13 ha13 hp13 => ?_
      have hB13 := ((Base.refl h11).keep (m := 1) hp12 (by decide)).keep (m := 1) hp13 (by decide)
      have ha1' := ha11.pres hB13.pres ha11.lt
      refine br_not (fun hb => absurd hb (by simp)) (fun _ => ?_)
      refine ⟨(s1, d1, f1), ha1'.cells0 _ rfl, (s2', d2, f2), ha13.box.cells0 _ rfl, ?_⟩
      have hp813 := up hB10.pres (up hp11 hB13.pres)
      have hln := plOut_len c xl (by omega)
      refine (samePlan_spec (p := fun _ => True) (s1, d1, f1) (s2', d2, f2) _ _ _ _ _ _ h13 (Seq.up hs1 hp813) (Seq.up hd1 hp813) (Seq.up hf1 hp813) (Seq.up hs2 hB13.pres) (Seq.up hd2 hB13.pres) (Seq.up hf2 hB13.pres) (by omega) (by omega) (by omega) rfl).mono ?_
      rintro v h14 ⟨rfl, hp14⟩
      refine ⟨_, rfl, ?_⟩
      refine br_not (fun hb => absurd hb (by simp)) (fun _ => ?_)
      have hp7z := up hp8 (up hp813 hp14)
      refine (rows_int_spec s x xl xl rs' xr h14 (Seq2.up hin hp7z) (Seq2.up hx7 hp7z) (by omega) (fun r hr => Nat.le_trans (hxl2 r hr) (by decide))).mono ?_
      rintro v h15 ⟨rfl, rfl⟩
      refine ⟨_, rfl, ?_⟩
      refine br_not (fun hb => absurd hb (by simp)) (fun _ => ?_)
      rw [wrap_small _ (by omega) (by omega)]
      exact ⟨i + 1, by simp, ⟨by omega, up hp7 hp7z⟩, by omega⟩
end Go.Proofs.Ytlefjaiignpnaaa
