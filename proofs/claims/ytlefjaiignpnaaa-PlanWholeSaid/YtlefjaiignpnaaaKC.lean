/- Part of the proofs that wellspringlaw13's laws answer true whatever the input reads, and leave it as it was; no condition. -/
import Derived.Test.YtlefjaiignpnaaaKB
import Derived.Test.YtlefjaiignpnaaaHpB
import Derived.Test.YtlefjaiignpnaaaPlB
namespace Go.Proofs.Ytlefjaiignpnaaa
open Go Go.Vc Go.Proofs Wl
set_option maxRecDepth 100000
theorem map_under : Try.prog.underlying 38 = some (.map 3 4) := by kernel_rfl
theorem int_under : Try.prog.underlying 3 = some (.int .i64) := by kernel_rfl
theorem bool_zero : AlwaysV Try.prog (zeroValue 4) (.bool false) := by
  have h : (Try.prog.info? 4).bind (·.zero) = some (.bool false) := by kernel_rfl
  cases hf : Try.prog.info? 4 with
  | none => rw [hf] at h; cases h
  | some f =>
    rw [hf] at h
    refine (always_typeInfo hf).bind ?_
    rw [show f.zero = some (.bool false) from h]
    exact .pure
theorem nodup_take {l : List Int} (h : l.Nodup) {k : Nat} (hk : k < l.length) : l[k] ∉ l.take k := by
  intro hm
  have e : l = l.take k ++ l[k] :: l.drop (k + 1) := by rw [← List.drop_eq_getElem_cons hk, List.take_append_drop]
  rw [e, List.nodup_append] at h
  exact h.2.2 _ hm _ List.mem_cons_self rfl
def has (kvs : List (Int × Bool)) (x : Int) : Bool := (kvGet x kvs).getD false
theorem has_set (kvs : List (Int × Bool)) (x y : Int) : has (kvSet x true kvs) y = (decide (y = x) || has kvs y) := by
  unfold has
  rw [kvGet_set]
  by_cases h : y = x <;> simp [h]
theorem left_ris (us : List Bool) : ∀ k, risesB (leftL us k) = true
  | 0 => rfl
  | k + 1 => by
    unfold leftL
    split
    · exact left_ris us k
    · exact rises_end (left_ris us k) fun c hc => left_rises us k c hc
theorem good_congr {rows : List (List Int)} {D D' U U' : Int → Prop} {l : List (Int × Int)} (h1 : ∀ x, D x ↔ D' x) (h2 : ∀ x, U x ↔ U' x) (h : goodSteps rows D U l) : goodSteps rows D' U' l := by
  have e1 : D = D' := funext fun x => propext (h1 x)
  have e2 : U = U' := funext fun x => propext (h2 x)
  rw [← e1, ← e2]; exact h

set_option maxHeartbeats 16000000 in
theorem planWhole_spec (n : Int) (l : Sl) (ml : List Int) (h : Heap) (hl : Seq h (fun b => b < h.size) l 1 intv ml) :
    Spec Try.prog wellspringlaw13_PlanWhole_id #[.int .i64 n, .slice l.ptr l.len l.cap] h fun v h' => v = .bool true ∧ Pres (fun b => b < h.size) h h' := by
  refine wellspringlaw13_PlanWhole_run n l ?_
  unfold wellspringlaw13_PlanWhole_m
  refine (within_spec n 24 h (by decide) (by decide)).mono ?_
  rintro v h1 ⟨rfl, rfl⟩
  have hm0 := Int.emod_nonneg n (show (24 : Int) ≠ 0 by decide)
  have hm1 := Int.emod_lt_of_pos n (show (0 : Int) < 24 by decide)
  obtain ⟨N, hN⟩ : ∃ N : Nat, n % 24 = N := ⟨(n % 24).toNat, by omega⟩
  rw [hN] at hm1 ⊢
  have hN' : N < 24 := by omega
  refine ⟨_, rfl, ?_⟩
  dsimp only
  refine (lawRows_spec l ml N 30 h1 hl (fun _ hb => hb) (by omega) (by decide)).mono ?_
  rintro v h2 ⟨c2, s2, rs2, hB2, rfl, hR2⟩
  refine ⟨s2, rfl, ?_⟩
  obtain ⟨rows, hrows⟩ : ∃ rows, rows = rowsL ml N 30 := ⟨_, rfl⟩
  have hro : ∀ r ∈ rows, rowOk N r = true := fun r hr => by
    rw [hrows] at hr
    obtain ⟨x, _, rfl⟩ := List.mem_map.1 hr
    exact rowU_ok x N
  have hrl : rows.length ≤ 30 := by rw [hrows]; simp [rowsL]; omega
  rw [← hrows] at hR2
  have hright : rightB N rows = true := by
    simp only [rightB, Bool.and_eq_true, decide_eq_true_eq, List.all_eq_true]
    exact ⟨by omega, hro⟩
  have hcols : ∀ r ∈ rows, ∀ c ∈ r, 0 ≤ c ∧ c < (N : Int) := fun r hr => row_cols (hro r hr)
  have hshort : ∀ r ∈ rows, r.length ≤ 64 := fun r hr => row_short (hro r hr) (by omega)
  have hx2 := hR2.seq2
  have hsl2 := hx2.slen
  obtain ⟨k1, k2, k3, k4, k5, k6⟩ := planL_ok hcols
  refine (plan_spec N s2 rows rs2 h2 hx2 (by omega) (fun r hr => Nat.le_trans (hshort r hr) (by decide))).mono ?_
  have hout : plOut (N : Int) rows = ((planL N rows).steps, (planL N rows).dead, leftL (planL N rows).used rows.length) := by
    unfold plOut; rw [if_pos hright, Int.toNat_natCast]
  have hris := left_ris (planL N rows).used rows.length
  rw [hright, hout]
  generalize (planL N rows).steps = st at *
  generalize (planL N rows).dead = dd at *
  generalize leftL (planL N rows).used rows.length = lf at *
  rintro v h3 ⟨hp3, s1, d1, f1, rfl, hs1, hd1, hf1⟩
  dsimp only at hs1 hd1 hf1
  refine ⟨((s1, d1, f1), _), rfl, ?_⟩
  dsimp only
  refine runC_alloc C_ok (Base.refl h3) 1 rfl fun a h4 ha hp4 => ?_
  refine ha.store0 C_ok rfl _ rfl rfl rfl (Nat.le_refl _) fun h5 ha5 hp5 => ?_
  have hB5 := ((Base.refl h3).keep (m := 1) hp4 (by decide)).keep (m := 1) hp5 (by decide)
  have hp15 : Pres (fun b => b < h1.size) h1 h5 := up hB2.pres (up hp3 hB5.pres)
  have hs5 := Seq.up hs1 hB5.pres
  have hd5 := Seq.up hd1 hB5.pres
  have hf5 := Seq.up hf1 hB5.pres
  have hx5 := Seq2.up hx2 (up hp3 hB5.pres)
  have ha5 := ha5.box
  have ls := hs1.len; have ld := hd1.len; have lf' := hf1.len
  refine join_in ?_
  refine br_not (fun hb => absurd hb (by decide)) (fun _ => ?_)
  refine ⟨s1, ha5.cell0 rfl, d1, ha5.cell rfl, ?_⟩
  rw [wrap_small _ (by omega) (by omega)]
  refine br_ne (fun hne => absurd hne (by omega)) (fun _ => ?_)
  refine ⟨s1, ha5.cell0 rfl, f1, ha5.cell rfl, ?_⟩
  rw [wrap_small _ (by omega) (by omega)]
  refine br_ne (fun hne => absurd hne (by omega)) (fun _ => ?_)
  refine ⟨f1, ha5.cell rfl, ?_⟩
  refine (rises_spec f1 lf h5 hf5 (by omega)).mono ?_
  rintro v h6 ⟨rfl, rfl⟩
  refine ⟨_, rfl, ?_⟩
  refine br_not (fun hb => absurd hb (by rw [hris]; decide)) (fun _ => ?_)
  refine run_makeMap' (fun b : Bool => .bool b) fun r1 h7 hr1 hm1' hp7 => ?_
  refine run_makeMap' (fun b : Bool => .bool b) fun r2 h8 hr2 hm2' hp8 => ?_
  have hm18 := hm1'.pres hp8 trivial
  have hsz7 := hp7.1
  have h17 := hm1'.lt
  have hp68 := up (any hp7) (any hp8)
  refine ⟨d1, (ha5.pres hp68 ha5.lt).cell rfl, ?_⟩
  refine loop_inv (fun t : Nat × List (Int × Bool) => (t.1 : Int)) (fun ⟨k, kv⟩ h' => k ≤ dd.length ∧ Pres (fun b => b < h6.size) h6 h' ∧ MapIs h' r1 (fun b : Bool => .bool b) kv ∧ MapIs h' r2 (fun b : Bool => .bool b) [] ∧ ∀ x, has kv x = decide (x ∈ dd.take k)) (fun t => dd.length - t.1) (0, []) rfl
    ⟨by simp, hp68, hm18, hm2', fun x => by simp [has, kvGet]⟩ ?_
  rintro ⟨k, kv⟩ h9 ⟨hk, hp9, hm1, hm2, hh⟩
  dsimp only at *
  refine br_dec (fun hlt => ?_) (fun hge => ?_)
  · have hk' : k < dd.length := by omega
    have hc := k3 _ (List.getElem_mem hk')
    refine (Seq.up hd5 hp9).get1 k rfl hk' _ rfl ?_
    refine br_dec (fun hn => absurd hn (by omega)) (fun _ => br_dec (fun hn => absurd hn (by omega)) (fun _ => ?_))
    refine hm1.lookup map_under int_under bool_zero ⟨has kv dd[k], rfl, ?_⟩
    refine br_b (fun hb => absurd hb (by rw [hh]; simpa using nodup_take k4 hk')) (fun _ => ?_)
    refine hm1.update true map_under int_under fun h10 hm10 hp10 _ => ?_
    rw [wrap_small _ (by omega) (by omega)]
    refine ⟨(k + 1, kvSet dd[k] true kv), by simp, ⟨by simp; omega, hp9.then hp10 fun b hb _ => by omega, hm10, hm2.pres hp10 (by omega), fun x => ?_⟩, by simp; omega⟩
    dsimp only
    have e : x ∈ dd.take (k + 1) ↔ x ∈ dd.take k ∨ x = dd[k] := by rw [take_snoc _ _ hk', List.mem_append, List.mem_singleton]
    rw [has_set, hh, decide_eq_decide.2 e, Bool.decide_or, Bool.or_comm]
  · have hke : k = dd.length := by omega
    subst hke
    rw [List.take_length] at hh
    refine ⟨f1, (ha5.pres hp9 ha5.lt).cell rfl, ?_⟩
    refine loop_inv (fun t : Nat × List (Int × Bool) => (t.1 : Int)) (fun ⟨k, kv2⟩ h' => k ≤ lf.length ∧ Pres (fun b => b < h6.size) h6 h' ∧ MapIs h' r1 (fun b : Bool => .bool b) kv ∧ MapIs h' r2 (fun b : Bool => .bool b) kv2 ∧ ∀ x, has kv2 x = decide (x ∈ lf.take k)) (fun t => lf.length - t.1) (0, []) rfl
      ⟨by simp, hp9, hm1, hm2, fun x => by simp [has, kvGet]⟩ ?_
    clear hp9 hm1 hm2
    rintro ⟨k, kv2⟩ h10 ⟨hk, hp10, hm1, hm2, hh2⟩
    dsimp only at *
    refine br_dec (fun hlt => ?_) (fun hge => ?_)
    · have hk' : k < lf.length := by omega
      have hc := k5 _ (List.getElem_mem hk')
      refine (Seq.up hf5 hp10).get1 k rfl hk' _ rfl ?_
      refine br_dec (fun hn => absurd hn (by omega)) (fun _ => br_dec (fun hn => absurd hn (by omega)) (fun _ => ?_))
      refine hm2.update true map_under int_under fun h11 hm11 hp11 _ => ?_
      rw [wrap_small _ (by omega) (by omega)]
      refine ⟨(k + 1, kvSet lf[k] true kv2), by simp, ⟨by simp; omega, hp10.then hp11 fun b hb _ => by omega, hm1.pres hp11 (by omega), hm11, fun x => ?_⟩, by simp; omega⟩
      dsimp only
      have e : x ∈ lf.take (k + 1) ↔ x ∈ lf.take k ∨ x = lf[k] := by rw [take_snoc _ _ hk', List.mem_append, List.mem_singleton]
      rw [has_set, hh2, decide_eq_decide.2 e, Bool.decide_or, Bool.or_comm]
    · have hke : k = lf.length := by omega
      subst hke
      rw [List.take_length] at hh2
      refine ⟨s1, (ha5.pres hp10 ha5.lt).cell0 rfl, ?_⟩
      refine loop_inv (fun t : Nat × List (Int × Bool) × List (Int × Bool) => (t.1 : Int)) (fun ⟨k, kv, kv2⟩ h' => k ≤ st.length ∧ Pres (fun b => b < h6.size) h6 h' ∧ MapIs h' r1 (fun b : Bool => .bool b) kv ∧ MapIs h' r2 (fun b : Bool => .bool b) kv2 ∧ goodSteps rows (fun x => has kv x = true) (fun x => has kv2 x = true) (st.drop k)) (fun t => st.length - t.1) (0, kv, kv2) rfl
        ⟨by simp, hp10, hm1, hm2, good_congr (fun x => by rw [hh]; simp) (fun x => by rw [hh2]; simp) k6⟩ ?_
      clear hp10 hm1 hm2 hh hh2 k6
      rintro ⟨k, kv, kv2⟩ h11 ⟨hk, hp11, hm1, hm2, hg⟩
      dsimp only at *
      refine br_dec (fun hlt => ?_) (fun hge => ?_)
      · have hk' : k < st.length := by omega
        rw [List.drop_eq_getElem_cons hk'] at hg
        obtain ⟨⟨i, c⟩, hst⟩ : ∃ t, t = st[k] := ⟨_, rfl⟩
        rw [← hst] at hg
        obtain ⟨⟨g1, g2⟩, g3, g4, g5, g6, g7⟩ := hg
        refine (Seq.up hs5 hp11).getk (g := stepv) k rfl hk' (i, c) (by rw [← hst]) ?_
        refine run_alloc C_ok rfl fun x h12 hxb hx hp12 _ => ?_
        refine run_store0 C_ok hx rfl _ rfl rfl rfl (Nat.le_refl _) fun h13 hx13 hp13 _ => ?_
        have l1 := hm1.lt; have l2 := hm2.lt
        have hp12' : Pres (fun b => b < h11.size) h11 h13 := (any hp12).then hp13 fun b hb _ => by omega
        have hp13' := up hp11 hp12'
        have hm1 := hm1.pres hp12' l1
        have hm2 := hm2.pres hp12' l2
        have hxl := hx13.lt
        have hrows13 := Seq2.up hx5 hp13'
        obtain ⟨I, rfl⟩ : ∃ I : Nat, i = I := ⟨i.toNat, by omega⟩
        have hI : I < rows.length := by omega
        have hrI : rows.getD I [] = rows[I] := by rw [List.getD_eq_getElem?_getD, List.getElem?_eq_getElem hI]; rfl
        rw [Int.toNat_natCast, hrI] at g5 g6
        refine join_in ?_
        refine ⟨(I : Int), hx13.cell0 rfl, br_dec (fun hn => absurd hn (by omega)) (fun _ => ?_)⟩
        refine ⟨(I : Int), hx13.cell0 rfl, br_dec (fun hn => absurd hn (by omega)) (fun _ => ?_)⟩
        refine ⟨(I : Int), hx13.cell0 rfl, ?_⟩
        refine hm2.lookup map_under int_under bool_zero ⟨has kv2 I, rfl, ?_⟩
        refine ⟨⟨hx13.cell0 rfl, hx13.cell0 rfl, hx13.cell0 rfl, trivial⟩, ?_⟩
        refine br_b (fun hb => absurd hb g3) (fun _ => ?_)
        refine ⟨c, hx13.cell rfl, ?_⟩
        refine hm1.lookup map_under int_under bool_zero ⟨has kv c, rfl, ?_⟩
        refine ⟨⟨hx13.cell rfl, hx13.cell0 rfl, hx13.cell0 rfl, hx13.cell0 rfl, trivial⟩, ?_⟩
        refine br_b (fun hb => absurd hb g4) (fun _ => ?_)
        refine ⟨(I : Int), hx13.cell0 rfl, ?_⟩
        refine Seq2.getA hrows13 I rfl hI fun a1 w hc1 hw hwi => ?_
        refine ⟨c, hx13.cell rfl, ?_⟩
        refine (member_spec w rows[I] c h13 hw (Nat.le_trans (hshort _ (List.getElem_mem hI)) (by decide))).mono ?_
        rintro v h14 ⟨rfl, rfl⟩
        refine ⟨_, rfl, ?_⟩
        refine ⟨⟨hx13.cell rfl, hc1, hx13.cell0 rfl, hx13.cell rfl, hx13.cell0 rfl, hx13.cell0 rfl, hx13.cell0 rfl, trivial⟩, ?_⟩
        refine br_not (fun hb => absurd hb (by simpa using g5)) (fun _ => ?_)
        refine ⟨(I : Int), hx13.cell0 rfl, ?_⟩
        refine hrows13.get I rfl hI fun w2 hw2 _ => ?_
        have hwl := hw2.len
        have hsI := hshort _ (List.getElem_mem hI)
        refine loop_inv (fun j : Nat => (j : Int)) (fun j h' => h' = h14 ∧ j ≤ rows[I].length) (fun j => rows[I].length - j) 0 rfl ⟨rfl, by omega⟩ ?_
        rintro j h15 ⟨rfl, hj⟩
        refine br_dec (fun hlt => ?_) (fun hge => ?_)
        · have hj' : j < rows[I].length := by omega
          refine hw2.get1 j rfl hj' _ rfl ?_
          refine ⟨c, hx13.cell rfl, ?_⟩
          rw [wrap_small _ (by omega) (by omega)]
          refine br_ne (fun hne => ?_) (fun _ => ?_)
          · refine hm1.lookup map_under int_under bool_zero ⟨has kv rows[I][j], rfl, ?_⟩
            have this : has kv rows[I][j] = true := g6 _ (List.getElem_mem hj') hne
            refine br_not (fun hb => absurd this (by rw [hb]; decide)) (fun _ => ?_)
            exact ⟨j + 1, by simp, ⟨rfl, by omega⟩, by omega⟩
          · exact ⟨j + 1, by simp, ⟨rfl, by omega⟩, by omega⟩
        · refine ⟨(I : Int), hx13.cell0 rfl, c, hx13.cell rfl, ?_⟩
          refine hm2.update true map_under int_under fun h16 hm2' hp16 _ => ?_
          have hx16 := hx13.pres hp16 (by omega)
          refine ⟨⟨hx16.cell rfl, hx16.cell0 rfl, trivial⟩, ?_⟩
          refine (hm1.pres hp16 (by omega)).update true map_under int_under fun h17 hm1' hp17 _ => ?_
          have hx17 := hx16.pres hp17 (by omega)
          refine ⟨⟨hx17.cell rfl, hx17.cell0 rfl, trivial⟩, ?_⟩
          rw [wrap_small _ (by omega) (by omega)]
          refine ⟨(k + 1, kvSet c true kv, kvSet (I : Int) true kv2), by simp, ⟨by simp; omega, (hp13'.then hp16 fun b hb _ => by omega).then hp17 fun b hb _ => by omega, hm1', hm2'.pres hp17 (by omega), good_congr (fun x => ?_) (fun x => ?_) g7⟩, by simp; omega⟩
          · dsimp only; rw [has_set]; simp [or_comm]
          · dsimp only; rw [has_set]; simp [or_comm]
      · refine (wakes_spec h11).mono ?_
        rintro v h12 ⟨rfl, hp12⟩
        exact ⟨true, rfl, rfl, up hp15 (up hp11 hp12)⟩
end Go.Proofs.Ytlefjaiignpnaaa
