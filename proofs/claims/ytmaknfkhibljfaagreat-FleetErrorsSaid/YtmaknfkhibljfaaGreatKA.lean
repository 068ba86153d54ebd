/- Part of the proofs that wellspringlaw30's laws answer true whatever the input reads, and leave it as it was; no condition. -/
import Derived.Test.YtmaknfkhibljfaaGreatTabS
import Derived.Test.YtmaknfkhibljfaaGreatHpA
import Derived.Test.YtmaknfkhibljfaaGreatShelf
import Derived.Test.YtmaknfkhibljfaaGreatHsA
import Derived.Test.YtmaknfkhibljfaaGreatPlA
set_option linter.unusedVariables false
set_option linter.unusedSimpArgs false
namespace Go.Proofs.YtmaknfkhibljfaaGreat
open Go Go.Vc Go.Proofs Wl
set_option maxRecDepth 100000
abbrev Pm := Int × Int × Int
abbrev pmv (p : Pm) : Value := .agg #[.int .i64 p.1, .int .i64 p.2.1, .int .i64 p.2.2]
theorem pre_May_spec (p : Pm) (h : Heap) : Meets Tryz.prog pre_May_id #[pmv p] h fun v h' => v = .bool (mayP p) ∧ Sp h h' [] := by
  refine pre_May_run p ?_
  unfold pre_May_m
  refine (Sp.refl h).boxed fun a h1 H1 => ?_
  have hb := H1.box 0 rfl
  have hz : Sp h h1 [] := .zip H1.pres
  have c0 : cellOf h1 a = some (.int .i64 p.1) := hb.cell0 rfl
  have c1 : cellOf h1 (a.add 1) = some (.int .i64 p.2.1) := hb.cell rfl
  have c2 : cellOf h1 (a.add 2) = some (.int .i64 p.2.2) := hb.cell rfl
  unfold mayP
  refine ⟨_, c0, br_dec (fun e1 => ?_) (fun e1 => ⟨by rw [decide_eq_false e1]; rfl, hz⟩)⟩
  rw [decide_eq_true e1]
  refine ⟨_, c0, br_dec (fun e1 => ?_) (fun e1 => ⟨by rw [decide_eq_false e1]; rfl, hz⟩)⟩
  rw [decide_eq_true e1]
  refine ⟨_, c1, br_dec (fun e1 => ?_) (fun e1 => ⟨by rw [decide_eq_false e1]; rfl, hz⟩)⟩
  rw [decide_eq_true e1]
  refine ⟨_, c1, br_dec (fun e1 => ?_) (fun e1 => ⟨by rw [decide_eq_false e1]; rfl, hz⟩)⟩
  rw [decide_eq_true e1]
  refine ⟨_, c2, br_dec (fun e1 => ?_) (fun e1 => ⟨by rw [decide_eq_false e1]; rfl, hz⟩)⟩
  rw [decide_eq_true e1]
  exact ⟨_, c2, rfl, hz⟩
abbrev eInt : ElemOk C.toCfg T_sl_int T_int 1 [.int .i64 0] 8 := ⟨_, _, rfl, rfl, rfl, rfl, rfl, rfl⟩
abbrev eU8 : ElemOk C.toCfg T_sl_uint8 T_uint8 1 [.int .u8 0] 1 := ⟨_, _, rfl, rfl, rfl, rfl, rfl, rfl⟩
abbrev eSlU8 : ElemOk C.toCfg T_sl_sl_uint8 T_sl_uint8 1 [.slice none 0 0] 24 := ⟨_, _, rfl, rfl, rfl, rfl, rfl, rfl⟩
theorem clone_int_spec (s : Sl) (l : List Int) (h : Heap) (hs : Rd h s 1 intv l) (hsz : l.length ≤ 2 ^ 30) : Meets Tryz.prog slices_Clone_int_int_id #[.slice s.ptr s.len s.cap] h fun v h' => ∃ r : Sl, v = .slice r.ptr r.len r.cap ∧ Sp h h' [OwnA T_int r 1 intv l] := by
  refine slices_Clone_int_int_run s ?_
  unfold slices_Clone_int_int_m
  refine br_b (fun e => ?_) (fun e => ?_)
  · have := hs.isNil e
    subst this
    exact ⟨⟨none, 0, 0⟩, rfl, (Sp.refl h).nil T_int 1 intv⟩
  · refine (Sp.refl h).lit C_ok intv eInt rfl [] rfl (by decide) rfl fun s1 h1 H1 => ?_
    refine H1.append C_ok 0 rfl eInt ⟨_, _, rfl, rfl⟩ rfl (by decide) (fun _ => rfl) (hs.up H1.pres) one_int (by simp; omega) fun s2 h2 H2 => ⟨s2, rfl, H2⟩
theorem cloneB_spec (s : Sl) (l : List UInt8) (h : Heap) (hs : Rd h s 1 u8v l) (hsz : l.length ≤ 2 ^ 30) : Meets Tryz.prog bytes_Clone_id #[.slice s.ptr s.len s.cap] h fun v h' => ∃ r : Sl, v = .slice r.ptr r.len r.cap ∧ Sp h h' [OwnA T_uint8 r 1 u8v l] := by
  refine bytes_Clone_run s ?_
  unfold bytes_Clone_m
  refine br_b (fun e => ?_) (fun e => ?_)
  · have := hs.isNil e
    subst this
    exact ⟨⟨none, 0, 0⟩, rfl, (Sp.refl h).nil T_uint8 1 u8v⟩
  · refine (Sp.refl h).lit C_ok u8v eU8 rfl [] rfl (by decide) rfl fun s1 h1 H1 => ?_
    refine H1.append C_ok 0 rfl eU8 ⟨_, _, rfl, rfl⟩ rfl (by decide) (fun _ => rfl) (hs.up H1.pres) one_u8 (by simp; omega) fun s2 h2 H2 => ⟨s2, rfl, H2⟩
theorem sort_spec {e : TypeId} (s : Sl) (l : List Int) (h : Heap) (ho : Own h e s 1 intv l) (hsz : l.length < 2 ^ 40) : Meets Tryz.prog slices_Sort_int_int_id #[.slice s.ptr s.len s.cap] h fun v h' => v = .tuple #[] ∧ Own h' e s 1 intv (sortI l) ∧ Pres (fun b => ¬ s.on b) h h' :=
  sort_spec_of Tryz.slices_Sort_int Tryz.slices_Sort_int_none ho hsz
theorem within_spec (x n : Int) (h : Heap) (hn : 0 < n) (hb : n ≤ 2 ^ 62) : Meets Tryz.prog wellspringkeep_Within_id #[.int .i64 x, .int .i64 n] h fun v h' => v = .int .i64 (x % n) ∧ h' = h := by
  refine wellspringkeep_Within_run x n ?_
  unfold wellspringkeep_Within_m
  have h1 := Int.tmod_lt_of_pos x hn
  have h2 : -n < x.tmod n := Int.lt_tmod_of_pos x hn
  have he := tmod_fix x n hn
  refine ⟨by omega, join_in ?_⟩
  refine br_dec (fun hlt => ?_) (fun hge => ?_)
  · rw [wrap_small _ (by omega) (by omega)]
    exact ⟨by rw [he, if_pos hlt], rfl⟩
  · exact ⟨by rw [he, if_neg hge], rfl⟩
theorem sameB_spec {p q : Blocks} (a b : Sl) (la lb : Row) (h : Heap) (ha : Seq h p a 1 u8v la) (hb : Seq h q b 1 u8v lb) (hs : la.length ≤ 2 ^ 40) :
    Meets Tryz.prog wellspringkeep_Same_byte_id #[.slice a.ptr a.len a.cap, .slice b.ptr b.len b.cap] h fun v h' => v = .bool (decide (la = lb)) ∧ h' = h := by
  refine wellspringkeep_Same_byte_run a b ?_
  unfold wellspringkeep_Same_byte_m
  have hal := ha.len; have hbl := hb.len
  refine br_ne (fun hne => ⟨?_, rfl⟩) (fun heq => ?_)
  · rw [decide_eq_false (fun e => hne (by rw [hal, hbl, e]))]
  · refine loop_inv (fun k : Nat => (k : Int)) (fun k h' => h' = h ∧ k ≤ la.length ∧ la.take k = lb.take k) (fun k => la.length - k) 0 rfl ⟨rfl, by omega, by simp⟩ ?_
    rintro k h' ⟨rfl, hk, ht⟩
    refine br_dec (fun hlt => ?_) (fun hge => ?_)
    · have hk' : k < la.length := by omega
      have hk2 : k < lb.length := by omega
      refine ha.get1 k rfl hk' _ rfl ?_
      refine hb.get1 k rfl hk2 _ rfl ?_
      refine br_ne (fun hne => ⟨?_, rfl⟩) (fun heq => ?_)
      · rw [decide_eq_false]
        intro e; subst e; exact hne rfl
      · rw [wrap_small _ (by omega) (by omega)]
        have he : la[k] = lb[k] := UInt8.toNat_inj.1 (by omega)
        exact ⟨k + 1, by simp, ⟨rfl, by omega, by rw [take_snoc _ _ hk', take_snoc _ _ hk2, ht, he]⟩, by omega⟩
    · have : k = la.length := by omega
      subst this
      rw [List.take_of_length_le (by omega), List.take_of_length_le (by omega)] at ht
      exact ⟨by rw [decide_eq_true ht], rfl⟩
theorem Rd2.take {α : Type} {h : Heap} {s : Sl} {k : Nat} {f : α → List Value} {ll : List (List α)} (hs : Rd2 h s k f ll) (n : Nat) (hn : n ≤ ll.length) : Rd2 h ⟨s.ptr, n, s.cap⟩ k f (ll.take n) := by
  obtain ⟨rs, hs⟩ := hs
  have hl := hs.len
  refine ⟨rs.take n, hs.top.take n (by omega), by simp; omega, fun i r l h1 h2 => ?_⟩
  rw [List.getElem?_take] at h1 h2
  split at h1
  · rename_i hlt; rw [if_pos hlt] at h2; exact hs.row i r l h1 h2
  · cases h1
end Go.Proofs.YtmaknfkhibljfaaGreat
namespace Go.Proofs.YtmaknfkhibljfaaGreat
open Go Go.Vc Go.Proofs Wl
set_option maxRecDepth 100000
def smallP (a b c : Int) : Int × Int × Int := (1 + a % 6, 1 + b % 3, 1 + c % 9)
theorem small_spec (a b c : Int) (h : Heap) : Meets Tryz.prog wellspringplay_Small_id #[.int .i64 a, .int .i64 b, .int .i64 c] h fun v h' => v = pmv (smallP a b c) ∧ Sp h h' [] := by
  refine wellspringplay_Small_run a b c ?_
  unfold wellspringplay_Small_m
  refine (Sp.refl h).alloc C_ok rfl fun x h1 H1 => ?_
  refine (within_spec a 6 h1 (by decide) (by decide)).mono ?_
  rintro v h2 ⟨rfl, rfl⟩
  refine ⟨_, rfl, (within_spec b 3 h2 (by decide) (by decide)).mono ?_⟩
  rintro v h3 ⟨rfl, rfl⟩
  refine ⟨_, rfl, (within_spec c 9 h3 (by decide) (by decide)).mono ?_⟩
  rintro v h4 ⟨rfl, rfl⟩
  refine ⟨_, rfl, ?_⟩
  dsimp only
  rw [wrap_small _ (by omega) (by omega), wrap_small _ (by omega) (by omega), wrap_small _ (by omega) (by omega)]
  refine H1.storeAll C_ok 0 rfl rfl [.int .i64 (1 + a % 6), .int .i64 (1 + b % 3), .int .i64 (1 + c % 9)] rfl rfl rfl rfl fun h5 H5 => ?_
  exact ⟨smallP a b c, (H5.box 0 rfl).cells0 _ rfl, rfl, .zip H5.pres⟩
end Go.Proofs.YtmaknfkhibljfaaGreat
namespace Go.Proofs.YtmaknfkhibljfaaGreat
open Go Go.Vc Go.Proofs Wl
set_option maxRecDepth 100000
theorem refMay_spec (p : Pm) (h : Heap) : Meets Tryz.prog wellspringref01_May_id #[pmv p] h fun v h' => v = .bool (mayP p) ∧ Sp h h' [] := by
  refine wellspringref01_May_run p ?_
  unfold wellspringref01_May_m
  refine (Sp.refl h).boxed fun a h1 H1 => ?_
  have hb := H1.box 0 rfl
  have hz : Sp h h1 [] := .zip H1.pres
  have c0 : cellOf h1 a = some (.int .i64 p.1) := hb.cell0 rfl
  have c1 : cellOf h1 (a.add 1) = some (.int .i64 p.2.1) := hb.cell rfl
  have c2 : cellOf h1 (a.add 2) = some (.int .i64 p.2.2) := hb.cell rfl
  unfold mayP
  refine ⟨_, c0, br_dec (fun e1 => ?_) (fun e1 => ⟨by rw [decide_eq_false e1]; rfl, hz⟩)⟩
  rw [decide_eq_true e1]
  refine ⟨_, c0, br_dec (fun e1 => ?_) (fun e1 => ⟨by rw [decide_eq_false e1]; rfl, hz⟩)⟩
  rw [decide_eq_true e1]
  refine ⟨_, c1, br_dec (fun e1 => ?_) (fun e1 => ⟨by rw [decide_eq_false e1]; rfl, hz⟩)⟩
  rw [decide_eq_true e1]
  refine ⟨_, c1, br_dec (fun e1 => ?_) (fun e1 => ⟨by rw [decide_eq_false e1]; rfl, hz⟩)⟩
  rw [decide_eq_true e1]
  refine ⟨_, c2, br_dec (fun e1 => ?_) (fun e1 => ⟨by rw [decide_eq_false e1]; rfl, hz⟩)⟩
  rw [decide_eq_true e1]
  exact ⟨_, c2, rfl, hz⟩
end Go.Proofs.YtmaknfkhibljfaaGreat
namespace Go.Proofs.YtmaknfkhibljfaaGreat
open Go Go.Vc Go.Proofs
set_option maxRecDepth 100000
theorem same_int_spec {p q : Blocks} (a b : Sl) (la lb : List Int) (h : Heap) (ha : Seq h p a 1 intv la) (hb : Seq h q b 1 intv lb) (hs : la.length ≤ 2 ^ 40) :
    Meets Tryz.prog wellspringkeep_Same_int_id #[.slice a.ptr a.len a.cap, .slice b.ptr b.len b.cap] h fun v h' => v = .bool (decide (la = lb)) ∧ h' = h := by
  refine wellspringkeep_Same_int_run a b ?_
  unfold wellspringkeep_Same_int_m
  have hal := ha.len; have hbl := hb.len
  refine br_ne (fun hne => ⟨?_, rfl⟩) (fun heq => ?_)
  · rw [decide_eq_false (fun e => hne (by rw [hal, hbl, e]))]
  · refine loop_inv (fun k : Nat => (k : Int)) (fun k h' => h' = h ∧ k ≤ la.length ∧ la.take k = lb.take k) (fun k => la.length - k) 0 rfl ⟨rfl, by omega, by simp⟩ ?_
    rintro k h' ⟨rfl, hk, ht⟩
    refine br_dec (fun hlt => ?_) (fun hge => ?_)
    · have hk' : k < la.length := by omega
      have hk2 : k < lb.length := by omega
      refine ha.get1 k rfl hk' _ rfl ?_
      refine hb.get1 k rfl hk2 _ rfl ?_
      refine br_ne (fun hne => ⟨?_, rfl⟩) (fun heq => ?_)
      · rw [decide_eq_false]
        intro e; subst e; exact hne rfl
      · rw [wrap_small _ (by omega) (by omega)]
        exact ⟨k + 1, by simp, ⟨rfl, by omega, by rw [take_snoc _ _ hk', take_snoc _ _ hk2, ht, heq]⟩, by omega⟩
    · have : k = la.length := by omega
      subst this
      rw [List.take_of_length_le (by omega), List.take_of_length_le (by omega)] at ht
      exact ⟨by rw [decide_eq_true ht], rfl⟩
end Go.Proofs.YtmaknfkhibljfaaGreat
namespace Go.Proofs.YtmaknfkhibljfaaGreat
open Go Go.Vc Go.Proofs Wl
set_option maxRecDepth 100000
theorem rowsB_spec (a b : Sl) (la lb : Mat) (h : Heap) (ha : Rd2 h a 1 u8v la) (hb : Rd2 h b 1 u8v lb) (hs : la.length ≤ 2 ^ 40) (hr : ∀ r ∈ la, r.length ≤ 2 ^ 40) :
    Meets Tryz.prog wellspringkeep_Rows_byte_id #[.slice a.ptr a.len a.cap, .slice b.ptr b.len b.cap] h fun v h' => v = .bool (decide (la = lb)) ∧ h' = h := by
  refine wellspringkeep_Rows_byte_run a b ?_
  unfold wellspringkeep_Rows_byte_m
  have hal := ha.len; have hbl := hb.len
  refine br_ne (fun hne => ⟨?_, rfl⟩) (fun heq => ?_)
  · rw [decide_eq_false (fun e => hne (by rw [hal, hbl, e]))]
  · refine loop_inv (fun k : Nat => (k : Int)) (fun k h' => h' = h ∧ k ≤ la.length ∧ la.take k = lb.take k) (fun k => la.length - k) 0 rfl ⟨rfl, by omega, by simp⟩ ?_
    rintro k h' ⟨rfl, hk, ht⟩
    refine br_dec (fun hlt => ?_) (fun hge => ?_)
    · have hk' : k < la.length := by omega
      have hk2 : k < lb.length := by omega
      refine ha.get k rfl hk' fun r1 h1 => ?_
      refine hb.get k rfl hk2 fun r2 h2 => ?_
      refine (sameB_spec r1 r2 _ _ h' h1 h2 (hr _ (List.getElem_mem _))).mono ?_
      rintro v h3 ⟨rfl, rfl⟩
      refine ⟨_, rfl, trivial, ?_⟩
      refine br_not (fun e => ⟨?_, rfl⟩) (fun e => ?_)
      · have hne : la[k] ≠ lb[k] := of_decide_eq_false e
        rw [decide_eq_false]
        intro e; subst e; exact hne rfl
      · have he : la[k] = lb[k] := of_decide_eq_true e
        rw [wrap_small _ (by omega) (by omega)]
        exact ⟨k + 1, by simp, ⟨rfl, by omega, by rw [take_snoc _ _ hk', take_snoc _ _ hk2, ht, he]⟩, by omega⟩
    · have : k = la.length := by omega
      subst this
      rw [List.take_of_length_le (by omega), List.take_of_length_le (by omega)] at ht
      exact ⟨by rw [decide_eq_true ht], rfl⟩
end Go.Proofs.YtmaknfkhibljfaaGreat
namespace Go.Proofs.YtmaknfkhibljfaaGreat
open Go Go.Vc Go.Proofs Wl
set_option maxRecDepth 100000
def fieldsOf (d : Option TypeDesc) : List (Bool × TypeId × Nat) := match d with | some (.struct fs) => fs.toList.map (fun f => (f.name == "_", f.type, f.offset)) | _ => []
theorem pq_fields : fieldsOf (Tryz.prog.underlying T_api_Params) = [(false, 3, 0), (false, 3, 1), (false, 3, 2)] := by kernel_rfl
theorem pq_stood : Tryz.prog.stoodInHeld T_api_Params = false := by kernel_rfl
theorem pq_guard : Tryz.prog.eqGuardType Tryz.prog.depth T_api_Params = false := by kernel_rfl
theorem three_fields {P : Program} {t : TypeId} {a b c : TypeId × Nat} (h : fieldsOf (P.underlying t) = [(false, a.1, a.2), (false, b.1, b.2), (false, c.1, c.2)]) :
    ∃ f g e : Field, P.underlying t = some (.struct #[f, g, e]) ∧ (f.name ≠ "_" ∧ f.type = a.1 ∧ f.offset = a.2) ∧ (g.name ≠ "_" ∧ g.type = b.1 ∧ g.offset = b.2) ∧ (e.name ≠ "_" ∧ e.type = c.1 ∧ e.offset = c.2) := by
  cases hu : P.underlying t with
  | none => rw [hu] at h; cases h
  | some d =>
    rw [hu] at h
    cases d with
    | struct fs =>
      simp only [fieldsOf] at h
      obtain ⟨l⟩ := fs
      have hl : l.length = 3 := by simpa using congrArg List.length h
      obtain ⟨f, r, rfl⟩ := List.exists_cons_of_length_eq_add_one hl
      obtain ⟨g, r2, rfl⟩ := List.exists_cons_of_length_eq_add_one (by simpa using hl : r.length = 1 + 1)
      obtain ⟨e, r3, rfl⟩ := List.exists_cons_of_length_eq_add_one (by simpa using hl : r2.length = 0 + 1)
      obtain rfl : r3 = [] := by simpa using hl
      simp at h
      exact ⟨f, g, e, rfl, ⟨h.1.1, h.1.2.1, h.1.2.2⟩, ⟨h.2.1.1, h.2.1.2.1, h.2.1.2.2⟩, ⟨h.2.2.1, h.2.2.2.1, h.2.2.2.2⟩⟩
    | _ => cases h
theorem always_int {P : Program} {d : Nat} {t : TypeId} {k : IntKind} (h : ∃ k', P.underlying t = some (.int k')) (a b : Int) : AlwaysV P (Op.equalIn (d + 1) t (.int k a) (.int k b)) (a == b) := by
  obtain ⟨k', h⟩ := h
  unfold Op.equalIn
  refine (always_underlying h).bind ?_
  simp only [if_true]
  exact .pure
theorem always_part {P : Program} {t : TypeId} {k : IntKind} (h : P.underlying t = some (.int k)) {cs : Array Value} {i : Nat} {v : Value} (hv : cs[i]? = some v) : AlwaysV P (part t cs i) v := by
  unfold part isAgg
  refine AlwaysV.bind (v := false) ((always_underlying h).bind .pure) ?_
  simp only [Bool.false_eq_true, if_false, hv]
  exact .pure
theorem pq_eq (p q : Pm) : AlwaysV Tryz.prog (Op.equal T_api_Params (.agg #[.int .i64 p.1, .int .i64 p.2.1, .int .i64 p.2.2]) (.agg #[.int .i64 q.1, .int .i64 q.2.1, .int .i64 q.2.2])) (decide (p = q)) := by
  obtain ⟨f, g, u, hu, ⟨f1, f2, f3⟩, ⟨g1, g2, g3⟩, ⟨u1, u2, u3⟩⟩ := three_fields (a := (3, 0)) (b := (3, 1)) (c := (3, 2)) pq_fields
  have hi : ∃ k, Tryz.prog.underlying 3 = some (.int k) := ⟨.i64, by kernel_rfl⟩
  obtain ⟨k, hk⟩ := hi
  unfold Op.equal
  rw [show Op.maxDepth = 9998 + 1 + 1 from rfl, Op.equalIn]
  refine (always_underlying hu).bind ?_
  refine AlwaysV.bind (v := Tryz.prog) (fun w => rfl) ?_
  simp only [pq_stood, Bool.false_eq_true, if_false, List.forIn_toArray, List.forIn_cons, List.forIn_nil, ne_eq, f1, g1, u1, not_false_eq_true, if_true, f2, f3, g2, g3, u2, u3]
  obtain ⟨a, b, c⟩ := p
  obtain ⟨a', b', c'⟩ := q
  dsimp only
  have p1 : AlwaysV Tryz.prog (part 3 #[Value.int IntKind.i64 a, Value.int IntKind.i64 b, Value.int IntKind.i64 c] 0) _ := always_part hk rfl
  have p2 : AlwaysV Tryz.prog (part 3 #[Value.int IntKind.i64 a', Value.int IntKind.i64 b', Value.int IntKind.i64 c'] 0) _ := always_part hk rfl
  have p3 : AlwaysV Tryz.prog (part 3 #[Value.int IntKind.i64 a, Value.int IntKind.i64 b, Value.int IntKind.i64 c] 1) _ := always_part hk rfl
  have p4 : AlwaysV Tryz.prog (part 3 #[Value.int IntKind.i64 a', Value.int IntKind.i64 b', Value.int IntKind.i64 c'] 1) _ := always_part hk rfl
  have p5 : AlwaysV Tryz.prog (part 3 #[Value.int IntKind.i64 a, Value.int IntKind.i64 b, Value.int IntKind.i64 c] 2) _ := always_part hk rfl
  have p6 : AlwaysV Tryz.prog (part 3 #[Value.int IntKind.i64 a', Value.int IntKind.i64 b', Value.int IntKind.i64 c'] 2) _ := always_part hk rfl
  by_cases h1 : a = a'
  · by_cases h2 : b = b'
    · by_cases h3 : c = c'
      · have e : decide ((a, b, c) = (a', b', c')) = true := by simp [h1, h2, h3]
        rw [e]
        refine AlwaysV.bind (v := (none, ())) (AlwaysV.bind (v := ForInStep.yield (none, ())) (p1.bind (p2.bind ((always_int ⟨k, hk⟩ a a').bind ?_))) (AlwaysV.bind (v := ForInStep.yield (none, ())) (p3.bind (p4.bind ((always_int ⟨k, hk⟩ b b').bind ?_))) (AlwaysV.bind (v := ForInStep.yield (none, ())) (p5.bind (p6.bind ((always_int ⟨k, hk⟩ c c').bind ?_))) .pure))) .pure
        · simp only [h1, beq_self_eq_true, Bool.not_true, Bool.false_eq_true, if_false]; exact .pure
        · simp only [h2, beq_self_eq_true, Bool.not_true, Bool.false_eq_true, if_false]; exact .pure
        · simp only [h3, beq_self_eq_true, Bool.not_true, Bool.false_eq_true, if_false]; exact .pure
      · have e : decide ((a, b, c) = (a', b', c')) = false := by simp [h3]
        rw [e]
        refine AlwaysV.bind (v := (some false, ())) (AlwaysV.bind (v := ForInStep.yield (none, ())) (p1.bind (p2.bind ((always_int ⟨k, hk⟩ a a').bind ?_))) (AlwaysV.bind (v := ForInStep.yield (none, ())) (p3.bind (p4.bind ((always_int ⟨k, hk⟩ b b').bind ?_))) (AlwaysV.bind (v := ForInStep.done (some false, ())) (p5.bind (p6.bind ((always_int ⟨k, hk⟩ c c').bind ?_))) .pure))) .pure
        · simp only [h1, beq_self_eq_true, Bool.not_true, Bool.false_eq_true, if_false]; exact .pure
        · simp only [h2, beq_self_eq_true, Bool.not_true, Bool.false_eq_true, if_false]; exact .pure
        · rw [show (c == c') = false by simpa using h3]; simp only [Bool.not_false, if_true]; exact .pure
    · have e : decide ((a, b, c) = (a', b', c')) = false := by simp [h2]
      rw [e]
      refine AlwaysV.bind (v := (some false, ())) (AlwaysV.bind (v := ForInStep.yield (none, ())) (p1.bind (p2.bind ((always_int ⟨k, hk⟩ a a').bind ?_))) (AlwaysV.bind (v := ForInStep.done (some false, ())) (p3.bind (p4.bind ((always_int ⟨k, hk⟩ b b').bind ?_))) .pure)) .pure
      · simp only [h1, beq_self_eq_true, Bool.not_true, Bool.false_eq_true, if_false]; exact .pure
      · rw [show (b == b') = false by simpa using h2]; simp only [Bool.not_false, if_true]; exact .pure
  · have e : decide ((a, b, c) = (a', b', c')) = false := by simp [h1]
    rw [e]
    refine AlwaysV.bind (v := (some false, ())) (AlwaysV.bind (v := ForInStep.done (some false, ())) (p1.bind (p2.bind ((always_int ⟨k, hk⟩ a a').bind ?_))) .pure) .pure
    rw [show (a == a') = false by simpa using h1]; simp only [Bool.not_false, if_true]; exact .pure
theorem pq_neq (x y : Operand) (p q : Pm) : RawBin Tryz.prog .neq T_api_Params x y (.agg #[.int .i64 p.1, .int .i64 p.2.1, .int .i64 p.2.2]) (.agg #[.int .i64 q.1, .int .i64 q.2.1, .int .i64 q.2.2]) (.bool (!decide (p = q))) := by
  unfold RawBin eqGuard
  refine AlwaysV.bind (v := ()) ?_ ?_
  · simp only [Bool.not_true, Bool.false_eq_true, if_false]
    refine AlwaysV.bind (v := Tryz.prog) (fun w => rfl) ?_
    refine AlwaysV.bind (v := Tryz.prog) (fun w => rfl) ?_
    simp only [pq_guard, Bool.not_false, if_true]
    exact .pure
  · exact (pq_eq p q).bind .pure
end Go.Proofs.YtmaknfkhibljfaaGreat
