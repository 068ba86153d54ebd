/- Part of the proofs that wellspringlaw25's laws answer true whatever the input reads, and leave it as it was; no condition. -/
import Derived.Test.YtpbdnfgjjpgpoaaHpA
set_option linter.unusedVariables false
set_option linter.unusedSimpArgs false
namespace Go.Vc
open Go
section
variable {C : Ctx} {t t2 e k : Nat} {z : List Value} {by_ : Nat} {α : Type} {h h0 : Heap} {p q B : Blocks} {s v : Sl} {f : α → List Value} {l l2 : List α} {As : List HP}
/-- Append to a list that is only read and has no room: a new list. -/
theorem run_appendS (hC : C.Ok) (he : ElemOk C.toCfg t e k z by_) (h2 : ∃ i e2, C.T.get t2 = some i ∧ i.dsc = .slice e2) (hz : z.length = k) (hby : 0 < by_ ∧ by_ ≤ 64) (hw : ∀ x, (f x).length = k)
    (hseq : Seq h q s k f l) (hcap : s.len ≤ s.cap) (hfit : ¬ s.len + v.len ≤ s.cap) (hv : Seq h p v k f l2) (hsz : s.cap + l2.length ≤ 2 ^ 32) {ty : Nat} {K : Sl → Heap → Prop}
    (hk : ∀ s' h', Own h' e s' k f (l ++ l2) → Pres (fun _ => True) h h' → s'.ptr = some ⟨h.size, 0, none⟩ → K s' h') :
    RunsR C.P (Builtin.append_ #[t, t2] ty #[.slice s.ptr s.len s.cap, .slice v.ptr v.len v.cap]) (.one (.sc .slc)) h K := by
  obtain ⟨i2, e2, g1, g2⟩ := h2
  have hu2 : C.P.underlying t2 = some (.slice e2) := by have := hC.dsc g1; rw [g2] at this; exact dsc_slice this
  obtain ⟨inf, x1, x2, x3, zv, x4, x5⟩ := he.info hC
  unfold RunsR Builtin.append_
  simp only [List.getElem?_toArray, List.getElem?_cons_zero, List.getElem?_cons_succ]
  refine Runs.bind (Runs.always (always_underlying (he.under hC)) ?_)
  refine Runs.bind (Runs.always (he.size hC) ?_)
  refine Runs.bind (Runs.always (always_underlying hu2) ?_)
  refine Runs.bind (Runs.pure' ?_)
  simp only [Bool.false_eq_true, if_false, Bool.not_false, if_true]
  refine Runs.bind (Runs.pure' ?_)
  have hlen := hseq.len
  have hlen2 := hv.len
  rw [if_neg hfit]
  refine Runs.bind (Runs.always (always_typeInfo x1) ?_)
  rw [if_neg (fun hh => by rcases hh.2 with h | h <;> first | exact h | (rw [x3] at h; omega))]
  refine Runs.bind (Runs.always (always_typeInfo x1) ?_)
  have hnx := next_le (s.len + v.len) s.cap (by omega)
  rw [if_neg (by
    have : Builtin.nextslicecap (s.len + v.len) s.cap * inf.bytes ≤ (16 * 2 ^ 32 + 16 * 768) * 64 := Nat.mul_le_mul (by omega) (by rw [x3]; exact hby.2)
    omega)]
  refine Runs.bind (Runs.choose' ⟨fun hf => (by cases hf), fun _ nn => ?_⟩)
  refine Runs.bind (Runs.always (always_typeInfo x1) ?_)
  refine Runs.bind (Runs.askRoom' ?_)
  refine Runs.bind (firstCells_seq hw hseq ?_)
  refine Runs.bind (firstCells_seq hw hv ?_)
  have hzv : AlwaysV C.P (zeroValue e) zv := (always_typeInfo x1).bind (by rw [x4]; exact .pure)
  refine Runs.bind (Runs.always hzv ?_)
  rw [x5, zeroCells_eq]
  unfold newRow
  refine Runs.bind (Runs.bind (Runs.newObj' (Runs.pure' (Runs.pure' ?_))))
  generalize hcc : Question.cut (Question.appendCap (s.len + v.len) s.cap e) nn = cc
  have hcc' : s.len + v.len ≤ cc := by rw [← hcc]; simp only [Question.cut]; omega
  refine ⟨⟨some ⟨h.size, 0, none⟩, s.len + v.len, cc⟩, rfl, hk _ _ ⟨?_, .inr ⟨h.size, zrow z (cc - (s.len + v.len)), rfl, ?_, ?_, hcc'⟩⟩ (Pres.push _ _ _) rfl⟩
  · simp; omega
  · simp
  · rw [zrow_len, hz]
theorem SpB.appendS (hC : C.Ok) (H : SpB B h0 h As) (he : ElemOk C.toCfg t e k z by_) (h2 : ∃ i e2, C.T.get t2 = some i ∧ i.dsc = .slice e2) (hz : z.length = k) (hby : 0 < by_ ∧ by_ ≤ 64) (hw : ∀ x, (f x).length = k)
    (hseq : Seq h q s k f l) (hcap : s.len ≤ s.cap) (hfit : ¬ s.len + v.len ≤ s.cap) (hv : Seq h p v k f l2) (hsz : s.cap + l2.length ≤ 2 ^ 32) {ty : Nat} {K : Sl → Heap → Prop}
    (hk : ∀ s' h', SpB B h0 h' (As ++ [OwnA e s' k f (l ++ l2)]) → K s' h') :
    RunsR C.P (Builtin.append_ #[t, t2] ty #[.slice s.ptr s.len s.cap, .slice v.ptr v.len v.cap]) (.one (.sc .slc)) h K :=
  run_appendS hC he h2 hz hby hw hseq hcap hfit hv hsz fun s' h' ho hp hs => hk s' h' (H.comp (own_new rfl ho hs hp))
end
end Go.Vc

namespace Go.Vc
open Go
section
variable {C : Ctx} {t e k : Nat} {z : List Value} {by_ : Nat} {h : Heap} {s : Sl}
/-- The first ones of a list, and no room behind them. -/
theorem run_slice3 (hC : C.Ok) (he : ElemOk C.toCfg t e k z by_) (n : Nat) {x y : Int} (hx : x = n) (hy : y = n) (hle : n ≤ s.cap) {K : Sl → Heap → Prop} (hk : K ⟨s.ptr, n, n⟩ h) :
    RunsR C.P (Instr.sliceAt t (.slice s.ptr s.len s.cap) none (some (.int .i64 x)) (some (.int .i64 y))) (.one (.sc .slc)) h K := by
  subst hx; subst hy
  have hb : AlwaysV C.P (Instr.sliceBounds true s.len s.cap none (some (.int .i64 (n : Int))) (some (.int .i64 (n : Int)))) (0, n, n) := fun w => by
    have x1 : ¬ ((n : Int) < 0) := by omega
    have x2 : ¬ ((s.cap : Int) < (n : Int)) := by omega
    have x3 : (n : Int) ≤ (s.cap : Int) := by omega
    have x4 : (0 : Int) ≤ (n : Int) := by omega
    simp [Instr.sliceBounds, Instr.sliceBound, asIntOf, x1, x2, x3, x4]
  unfold RunsR Instr.sliceAt
  refine Runs.bind (Runs.always (always_underlying (he.under hC)) ?_)
  show Runs C.P (Instr.slice t (.slice s.ptr s.len s.cap) none (some (.int .i64 (n : Int))) (some (.int .i64 (n : Int)))) h _
  unfold Instr.slice
  refine Runs.bind (Runs.always (always_underlying (he.under hC)) ?_)
  refine Runs.bind (Runs.always hb ?_)
  refine Runs.bind (Runs.always (he.size hC) ?_)
  have e1 : (if n = 0 then s.ptr else s.ptr.map (·.add (0 * k))) = s.ptr := by
    split
    · rfl
    · cases s.ptr with
      | none => rfl
      | some a => simp [Addr.add]
  refine Runs.pure' ⟨⟨s.ptr, n, n⟩, ?_, hk⟩
  show Value.slice (if n = 0 then s.ptr else s.ptr.map (·.add (0 * k))) (n - 0) (n - 0) = _
  rw [e1]; rfl
end
end Go.Vc
