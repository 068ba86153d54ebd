/- Part of the proofs that wellspringlaw29's laws answer true whatever the input reads, and leave it as it was; no condition. -/
import Derived.Test.YtdoiokchdaoonaaGreatHpA
import Derived.ProofKit
import Derived.Deep.Matrix
import Derived.Carry
import Derived.Lib.SmallJoins
set_option linter.unusedVariables false
set_option linter.unusedSimpArgs false
namespace Go.Vc
open Go Go.RowKit Go.ChangeShapes Go.WideShapes Go.Joins Go.Deep
section
variable {H : Type} {enc : TypeId × Value → H} {P : Program} {W W' : World}
theorem below_of {w w' : World} (hl : Like w w') (hp : Pres (fun b => b < w.heap.size) w.heap w'.heap) : Below w.heap.size w w' :=
  ⟨hl.os, hl.tape, hl.output, hp.1, fun k hk => hp.2 k hk hk⟩
theorem trodAll_below (hl : laidOutB P = true) (hb : Below W.heap.size W W') : ∀ {ts : List TypeId} {vs : List Value} {ds : List (DataW H)} {ps : List MemPlace},
    (∀ t ∈ ts, P.readableRec t = true ∧ t < P.types.size) → DataW.TrodAll enc P W 0 (fun _ => true) true ts vs ds ps → (∀ x ∈ ps, x.block < W.heap.size) → DataW.TrodAll enc P W' 0 (fun b => decide (b < W.heap.size)) true ts vs ds ps
  | [], [], [], ps, _, h, _ => h
  | t :: ts, v :: vs, d :: ds, ps, hr, ⟨p, q, h1, h2, e⟩, hlt => by
    subst e
    exact ⟨p, q, Below.trod hl (hr t (by simp)).1 (hr t (by simp)).2 h1 hb (fun x hx => hlt x (by simp [hx])), trodAll_below hl hb (fun u hu => hr u (by simp [hu])) h2 (fun x hx => hlt x (by simp [hx])), rfl⟩
  | [], _ :: _, _, _, _, h, _ => h.elim
  | [], [], _ :: _, _, _, h, _ => h.elim
  | _ :: _, [], _, _, _, h, _ => h.elim
  | _ :: _, _ :: _, [], _, _, h, _ => h.elim
theorem law_post {f : Func} {s : ChangeSpec} {args : Array Value} {ds : List (DataW H)} {before : List MemPlace} {rt : TypeId} (hs : s.vars = []) (hW : DataW.Whole enc P f.params.toList s.vars false W args.toList ds [] before)
    (hfn : s.fn H (ds ++ []) = { results := [.lit (.bool true)], args := ds }) (hl : laidOutB P = true) (hb : Below W.heap.size W W') (hr : ∀ t ∈ f.params.toList, P.readableRec t = true ∧ t < P.types.size)
    (hres : f.resultTypes = #[rt]) (hrt : P.underlying rt = some .bool) : s.post enc P f false true false false W args (.bool true) W' := by
  obtain ⟨p, q, h1, h2, h3, h4, h5⟩ := id hW
  have hlt := hW.lt
  rw [hs] at h2
  have hq : q = [] := h2
  subst hq
  simp only [List.append_nil] at h3
  subst h3
  refine ⟨ds, [], before, [], before, [], hW, ?_, ?_, ?_, hb.frame _, fun h => by cases h⟩
  · rw [hfn, hres]
    exact trodAll_mk1 (shut_bool hrt true)
  · rw [hfn]
    exact trodAll_below hl hb hr h1 hlt
  · rw [hfn, hs]; rfl
theorem cell_cellOf (w : World) (a : Addr) : w.cell? a = cellOf w.heap a := rfl
theorem spot_none {h : Heap} {a : Addr} {v : Value} (hc : cellOf h a = some v) : a = ⟨a.block, a.off, none⟩ := by
  obtain ⟨b, o, s⟩ := a
  cases s with
  | none => rfl
  | some s =>
    unfold cellOf at hc
    cases hb : h[b]? with
    | none => rw [hb] at hc; cases hc
    | some x => rw [hb] at hc; cases x <;> simp at hc
theorem seq_of {α : Type} {f : α → Value} {h : Heap} {a : Addr} {len cap : Nat} {l : List α} (hl : l.length = len) (hc : ∀ i (hi : i < l.length), cellOf h (a.add i) = some (f l[i])) : Seq h (fun b => b < h.size) ⟨some a, len, cap⟩ 1 (fun x => [f x]) l := by
  refine ⟨hl.symm, fun i x hx => ?_⟩
  obtain ⟨hi, e⟩ := List.getElem?_eq_some_iff.1 hx
  have h0 := hc 0 (by omega)
  rw [add_zero] at h0
  have ha := spot_none h0
  refine ⟨a.block, a.off, by rw [← ha], lt_of_cell h0, ?_, trivial⟩
  have := hc i hi
  rw [ha, add_eq] at this
  rw [Nat.mul_one, add_eq, Nat.add_zero, this, e]
theorem seq_ints {t e : TypeId} {v : Value} {d : DataW H} {ps : List MemPlace} (ht : P.underlying t = some (.slice e)) (he : P.underlying e = some (.int .i64)) (hc : P.cellsOf e = 1)
    (hv : ∃ p n c, v = .slice p n c) (h : DataW.Trod enc P W 0 (fun _ => true) true t v d ps) : ∃ (s : Sl) (l : List Int), v = .slice s.ptr s.len s.cap ∧ Seq W.heap (fun b => b < W.heap.size) s 1 intv l := by
  obtain ⟨fuel, hf⟩ := h
  obtain ⟨p, n, c, rfl⟩ := hv
  rcases open_ints ht he hc hf with ⟨h1, _⟩ | ⟨a, len, cap, zs, h1, _, hle, _, hz, _, hcell, _⟩
  · simp [Value.cells] at h1
    obtain ⟨rfl, rfl, rfl⟩ := h1
    exact ⟨⟨none, 0, 0⟩, [], rfl, Seq.nil _ _ _ _ _ _⟩
  · simp [Value.cells] at h1
    obtain ⟨rfl, rfl, rfl⟩ := h1
    simp only [if_true] at hz
    refine ⟨⟨some a, n, c⟩, zs.take n, rfl, seq_of (f := fun x => .int .i64 x) (by simp; omega) fun i hi => ?_⟩
    simp at hi
    rw [← cell_cellOf, hcell i (by omega)]
    simp [List.getD_eq_getElem?_getD, List.getElem?_eq_getElem (show i < zs.length by omega)]
theorem okWide_slice' {r : _root_.Go.Reach} {b0 : Nat} {t e : TypeId} {v : Value} (ht : P.underlying t = some (.slice e)) (h : Value.okWide P W r b0 t v) : ∃ p n c, v = .slice p n c := by
  simp only [Value.okWide, ht, Cell.okWide] at h
  cases v <;> simp_all [Cell.ok]
theorem trodAll_five {w : World} {base : Nat} {spare : Nat → Bool} {held : Bool} {t0 t1 t2 t3 t4 : TypeId} {args : Array Value} {ds : List (DataW H)} {ps : List MemPlace} (h : DataW.TrodAll enc P w base spare held [t0, t1, t2, t3, t4] args.toList ds ps) :
    ∃ v0 v1 v2 v3 v4 d0 d1 d2 d3 d4 p0 p1 p2 p3 p4, args = #[v0, v1, v2, v3, v4] ∧ ds = [d0, d1, d2, d3, d4] ∧ ps = p0 ++ p1 ++ p2 ++ p3 ++ p4 ∧ DataW.Trod enc P w base spare held t0 v0 d0 p0 ∧ DataW.Trod enc P w base spare held t1 v1 d1 p1 ∧ DataW.Trod enc P w base spare held t2 v2 d2 p2 ∧ DataW.Trod enc P w base spare held t3 v3 d3 p3 ∧ DataW.Trod enc P w base spare held t4 v4 d4 p4 := by
  obtain ⟨v, vs, d, ds', p, q, hargs, rfl, rfl, hd, hrest⟩ := trodAll_cons h
  obtain ⟨v', vs', d', ds'', p', q', rfl, rfl, rfl, hd', hrest'⟩ := trodAll_cons hrest
  obtain ⟨v2, vs2, d2, ds2, p2, q2, rfl, rfl, rfl, hd2, hrest2⟩ := trodAll_cons hrest'
  obtain ⟨v3, vs3, d3, ds3, p3, q3, rfl, rfl, rfl, hd3, hrest3⟩ := trodAll_cons hrest2
  obtain ⟨v4, vs4, d4, ds4, p4, q4, rfl, rfl, rfl, hd4, hrest4⟩ := trodAll_cons hrest3
  obtain ⟨rfl, rfl, rfl⟩ := trodAll_nil hrest4
  exact ⟨v, v', v2, v3, v4, d, d', d2, d3, d4, p, p', p2, p3, p4, by cases args; simp_all, rfl, by simp, hd, hd', hd2, hd3, hd4⟩
def int3B (P : Program) (t : TypeId) : Bool :=
  match P.underlying t with
  | some (.struct ⟨[f0, f1, f2]⟩) => oneCellFields P #[f0, f1, f2] && Nat.beq (P.cellsOf t) 3 && (match P.underlying f0.type with | some (.int .i64) => true | _ => false) && (match P.underlying f1.type with | some (.int .i64) => true | _ => false) && (match P.underlying f2.type with | some (.int .i64) => true | _ => false)
  | _ => false
theorem i64_of {o : Option TypeDesc} (h : (match o with | some (.int .i64) => true | _ => false) = true) : o = some (.int .i64) := by
  split at h
  · rfl
  · cases h
theorem open_int3 {base : Nat} {spare : Nat → Bool} {held : Bool} {r : _root_.Go.Reach} {b0 : Nat} {t : TypeId} {v : Value} {d : DataW H} {p : List MemPlace} (hB : int3B P t = true) (hv : Value.okWide P W r b0 t v) (h : DataW.Trod enc P W base spare held t v d p) :
    ∃ n0 n1 n2 : Int, v = .agg #[.int .i64 n0, .int .i64 n1, .int .i64 n2] := by
  unfold int3B at hB
  split at hB
  · rename_i f0 f1 f2 hs
    simp only [Bool.and_eq_true] at hB
    obtain ⟨⟨⟨⟨h1, h2⟩, h3⟩, h4⟩, h5⟩ := hB
    obtain ⟨v0, v1, v2, y0, y1, y2, n, rfl, _, _, g0, g1, g2⟩ := open_agg3 hs h1 (Nat.eq_of_beq_eq_true h2) hv h
    obtain ⟨a, ha, _⟩ := DataW.trod_int (i64_of h3) g0
    obtain ⟨b, hb, _⟩ := DataW.trod_int (i64_of h4) g1
    obtain ⟨c, hc, _⟩ := DataW.trod_int (i64_of h5) g2
    simp at ha hb hc
    exact ⟨a, b, c, by rw [ha, hb, hc]⟩
  · cases hB
end
end Go.Vc
namespace Go.Vc
open Go Go.RowKit Go.ChangeShapes Go.WideShapes Go.Joins Go.Deep
section
variable {H : Type} {enc : TypeId × Value → H} {P : Program} {W W' : World}
end
end Go.Vc
