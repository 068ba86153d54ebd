/- Part of the proofs that wellspringlaw13's laws answer true whatever the input reads, and leave it as it was; no condition. -/
import Derived.Test.YtlefjaiignpnaaaHpA
namespace Go.Vc
open Go
/-! ### Maps with numbers for keys -/
def kvSet {α : Type} (x : Int) (v : α) : List (Int × α) → List (Int × α)
  | [] => [(x, v)]
  | (k, u) :: t => if k = x then (k, v) :: t else (k, u) :: kvSet x v t
def kvGet {α : Type} (x : Int) : List (Int × α) → Option α
  | [] => none
  | (k, u) :: t => if k = x then some u else kvGet x t
theorem kvGet_set {α : Type} (x y : Int) (v : α) : ∀ l : List (Int × α), kvGet y (kvSet x v l) = if y = x then some v else kvGet y l
  | [] => by
    simp only [kvSet, kvGet]
    by_cases h : x = y
    · simp [h]
    · have h' : ¬ y = x := fun e => h e.symm
      simp [h, h']
  | (k, u) :: t => by
    have ih := kvGet_set x y v t
    unfold kvSet
    by_cases h : k = x
    · subst h
      simp only [if_true, kvGet]
      by_cases h2 : k = y
      · simp [h2]
      · have h' : ¬ y = k := fun e => h2 e.symm
        simp [h2, h']
    · simp only [h, if_false, kvGet]
      by_cases h2 : k = y
      · subst h2; simp [h]
      · simp only [h2, if_false]; exact ih
theorem kvSet_len {α : Type} (x : Int) (v : α) : ∀ l : List (Int × α), (kvSet x v l).length ≤ l.length + 1
  | [] => by simp [kvSet]
  | (k, u) :: t => by
    have := kvSet_len x v t
    unfold kvSet
    split <;> simp <;> omega
structure MapIs {α : Type} (h : Heap) (r : Nat) (g : α → Value) (kvs : List (Int × α)) : Prop where
  ex : ∃ es clock, h[r]? = some (.map es clock) ∧ es.toList.map (fun e => (e.key, e.val)) = kvs.map (fun p => (Value.int .i64 p.1, g p.2))
section
variable {α : Type} {P : Program} {h h' : Heap} {r : Nat} {g : α → Value} {kvs : List (Int × α)}
theorem MapIs.pres {p : Blocks} (hm : MapIs h r g kvs) (hp : Pres p h h') (hr : p r) : MapIs h' r g kvs := by
  obtain ⟨es, clock, h1, h2⟩ := hm.ex
  exact ⟨es, clock, hp.block hr h1, h2⟩
theorem MapIs.lt (hm : MapIs h r g kvs) : r < h.size := by
  obtain ⟨es, clock, h1, h2⟩ := hm.ex
  exact lt_of_block h1
theorem findNow_none {x : Int} : ∀ {L : List MapEntry} {kvs : List (Int × α)} {n : Nat}, L.map (fun e => (e.key, e.val)) = kvs.map (fun p => (Value.int .i64 p.1, g p.2)) → kvGet x kvs = none →
    Instr.findNow (.int .i64) (.int .i64 x) L n = some none
  | [], _, _, _, _ => rfl
  | e :: L, [], _, h, _ => by simp at h
  | e :: L, (k, u) :: t, n, h, hg => by
    simp only [List.map_cons, List.cons.injEq, Prod.mk.injEq] at h
    obtain ⟨⟨h1, h2⟩, h3⟩ := h
    unfold kvGet at hg
    split at hg
    · cases hg
    · rename_i hne
      have : (x == k) = false := by simp; exact fun e => hne e.symm
      simp only [Instr.findNow, Instr.sameNow, h1, if_true, this]
      exact findNow_none h3 hg
theorem findNow_some {x : Int} {u : α} (v : α) (f : MapEntry → MapEntry) (hf : ∀ e, e.key = Value.int .i64 x → ((f e).key, (f e).val) = (Value.int .i64 x, g v)) : ∀ {L : List MapEntry} {kvs : List (Int × α)} {n : Nat}, L.map (fun e => (e.key, e.val)) = kvs.map (fun p => (Value.int .i64 p.1, g p.2)) → kvGet x kvs = some u →
    ∃ j e, Instr.findNow (.int .i64) (.int .i64 x) L n = some (some (n + j, g u)) ∧ L[j]? = some e ∧ e.key = .int .i64 x ∧ (L.modify j f).map (fun e => (e.key, e.val)) = (kvSet x v kvs).map (fun p => (Value.int .i64 p.1, g p.2))
  | [], [], _, _, hg => by cases hg
  | e :: L, [], _, h, _ => by simp at h
  | [], _ :: _, _, h, _ => by simp at h
  | e :: L, (k, w) :: t, n, h, hg => by
    simp only [List.map_cons, List.cons.injEq, Prod.mk.injEq] at h
    obtain ⟨⟨h1, h2⟩, h3⟩ := h
    unfold kvGet at hg
    by_cases hk : k = x
    · subst hk
      rw [if_pos rfl] at hg
      cases hg
      refine ⟨0, e, ?_, rfl, h1, ?_⟩
      · simp only [Instr.findNow, Instr.sameNow, h1, if_true, beq_self_eq_true, h2, Nat.add_zero]
      · simp only [kvSet, if_true, List.modify_zero_cons, List.map_cons, h3, hf e h1]
    · rw [if_neg hk] at hg
      obtain ⟨j, e', g1, g2, g3, g4⟩ := findNow_some v f hf (n := n + 1) h3 hg
      refine ⟨j + 1, e', ?_, g2, g3, ?_⟩
      · have : (x == k) = false := by simp; exact fun e => hk e.symm
        simp only [Instr.findNow, Instr.sameNow, h1, if_true, this]
        rw [g1]; congr 3; omega
      · simp only [kvSet, hk, if_false, List.modify_succ_cons, List.map_cons, g4, h1, h2]
theorem checkKey_int {kt : TypeId} {k : IntKind} {x : Int} {b : Bool} (hk : P.underlying kt = some (.int k)) (n : Nat) : AlwaysV P (Instr.checkKey b (n + 1) kt (.int k x)) () := by
  unfold Instr.checkKey
  exact (always_underlying hk).bind .pure
theorem run_makeMap' {t : Nat} {K : Option Nat → Heap → Prop} (g : α → Value) (hk : ∀ r h', r = h.size → MapIs h' r g [] → Pres (fun _ => True) h h' → K (some r) h') :
    RunsR P (Instr.makeMap t none) (.one (.sc .mp)) h K := by
  unfold RunsR Instr.makeMap
  refine Runs.bind (Runs.newObj' (Runs.pure' ⟨some h.size, rfl, hk _ _ rfl ⟨#[], 0, by simp, rfl⟩ (Pres.push _ _ _)⟩))
theorem MapIs.lookup {t kt et : Nat} {u0 : α} {x : Int} (hm : MapIs h r g kvs) (ht : P.underlying t = some (.map kt et)) (hkt : P.underlying kt = some (.int .i64)) (hz : AlwaysV P (zeroValue et) (g u0))
    {rt : Rt} {K : rt.den → Heap → Prop} (hk : ∃ d : rt.den, g ((kvGet x kvs).getD u0) = rt.enc d ∧ K d h) :
    RunsR P (Instr.lookup t (.map (some r)) (.int .i64 x) false) rt h K := by
  obtain ⟨es, clock, h1, h2⟩ := hm.ex
  unfold RunsR Instr.lookup
  refine Runs.bind (Runs.always (always_underlying ht) ?_)
  refine Runs.bind (Runs.getObj' h1 (fun _ _ _ h => by cases h) ?_)
  refine Runs.bind (Runs.pure' ?_)
  refine Runs.bind (Runs.always (checkKey_int hkt 9999) ?_)
  unfold Instr.findKey
  refine Runs.bind (Runs.bind (Runs.always (always_underlying hkt) ?_))
  cases hg : kvGet x kvs with
  | none =>
    rw [findNow_none h2 hg]
    refine Runs.pure' ?_
    refine Runs.bind (Runs.always hz ?_)
    refine Runs.bind (Runs.pure' (Runs.pure' ?_))
    rw [hg] at hk
    exact hk
  | some u =>
    obtain ⟨j, e, g1, _⟩ := findNow_some (x := x) (n := 0) u (fun e => ⟨e.key, g u, e.born⟩) (fun e hk => by simp [hk]) h2 hg
    rw [g1]
    refine Runs.pure' ?_
    refine Runs.bind (Runs.pure' (Runs.pure' ?_))
    rw [hg] at hk
    exact hk
theorem MapIs.update {t kt et : Nat} {x : Int} (v : α) (hm : MapIs h r g kvs) (ht : P.underlying t = some (.map kt et)) (hkt : P.underlying kt = some (.int .i64))
    {K : Unit → Heap → Prop} (hk : ∀ h', MapIs h' r g (kvSet x v kvs) → Pres (· ≠ r) h h' → h'.size = h.size → K () h') :
    Runs P (Instr.mapUpdate t (.map (some r)) (.int .i64 x) (g v)) h K := by
  obtain ⟨es, clock, h1, h2⟩ := hm.ex
  have hr := lt_of_block h1
  unfold Instr.mapUpdate
  refine Runs.bind (Runs.always (always_underlying ht) ?_)
  refine Runs.bind (Runs.getObj' h1 (fun _ _ _ h => by cases h) ?_)
  refine Runs.bind (Runs.always (checkKey_int hkt 9999) ?_)
  unfold Instr.findKey
  refine Runs.bind (Runs.bind (Runs.always (always_underlying hkt) ?_))
  have pres : ∀ o, Pres (· ≠ r) h (h.setIfInBounds r o) := fun o => Pres.setb h1 (fun hh => hh rfl)
  cases hg : kvGet x kvs with
  | none =>
    rw [findNow_none h2 hg]
    refine Runs.pure' ?_
    refine Runs.setObj' h1 (fun _ _ _ h => by cases h) ?_
    refine hk _ ⟨_, _, by rw [Array.getElem?_setIfInBounds, if_pos rfl, if_pos hr], ?_⟩ (pres _) (by simp)
    have app : ∀ l : List (Int × α), kvGet x l = none → kvSet x v l = l ++ [(x, v)] := by
      intro l
      induction l with
      | nil => intro _; rfl
      | cons p l ih =>
        obtain ⟨k, u⟩ := p
        intro hl
        unfold kvGet at hl
        split at hl
        · cases hl
        · rename_i hne
          simp only [kvSet, hne, if_false, ih hl, List.cons_append]
    rw [app kvs hg]
    simp [h2]
  | some u =>
    obtain ⟨j, e, g1, g2, g3, g4⟩ := findNow_some (x := x) (n := 0) v (fun e => { e with key := .int .i64 x, val := g v }) (fun e _ => rfl) h2 hg
    rw [g1]
    refine Runs.pure' ?_
    have he : es[0 + j]? = some e := by rw [Nat.zero_add, ← Array.getElem?_toList]; exact g2
    dsimp only
    rw [he]
    simp only [Option.map_some, Option.getD_some, g3]
    refine Runs.bind ?_
    unfold Instr.keyThatStays
    have hs : Instr.sameBits 10000 (.int .i64 x) (.int .i64 x) = true := by simp [Instr.sameBits]
    rw [hs, if_pos rfl]
    refine Runs.pure' ?_
    refine Runs.setObj' h1 (fun _ _ _ h => by cases h) ?_
    refine hk _ ⟨_, _, by rw [Array.getElem?_setIfInBounds, if_pos rfl, if_pos hr], ?_⟩ (pres _) (by simp)
    rw [Array.toList_modify, Nat.zero_add]
    exact g4
end
end Go.Vc
