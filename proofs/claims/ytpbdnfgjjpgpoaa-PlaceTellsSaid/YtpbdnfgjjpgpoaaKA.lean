/- Part of the proofs that wellspringlaw25's laws answer true whatever the input reads, and leave it as it was; no condition. -/
import Derived.Test.YtpbdnfgjjpgpoaaFlA
import Derived.Shelf.SlSortCmp.NoneTotal
import Derived.Test.YtpbdnfgjjpgpoaaTabS
import Derived.Test.YtpbdnfgjjpgpoaaShelf
set_option linter.unusedVariables false
set_option linter.unusedSimpArgs false
/-! The library's contract for sorting structs, in the words of this text. -/
namespace Go.Vc
open Go Go.Sort Go.Proofs
theorem grow_of {w w' : World} (hl : Like w w') (hp : Pres (fun b => b < w.heap.size) w.heap w'.heap) : ∃ q os', w' = Sort.grow (w.drewN q) os' := by
  refine ⟨w'.drawn - w.drawn, w'.heap.extract w.heap.size w'.heap.size, ?_⟩
  have hh : w.heap ++ w'.heap.extract w.heap.size w'.heap.size = w'.heap := by
    apply Array.ext_getElem?
    intro i
    have hle := hp.1
    by_cases hi : i < w.heap.size
    · rw [Array.getElem?_append_left hi, hp.2 i hi hi]
    · rw [Array.getElem?_append_right (by omega), Array.getElem?_extract]
      by_cases h2 : i < w'.heap.size
      · rw [if_pos (by omega), show w.heap.size + (i - w.heap.size) = i by omega]
      · rw [if_neg (by omega), Array.getElem?_eq_none (by omega)]
  obtain ⟨hp1, tp, dr, os, out⟩ := w
  obtain ⟨hp1', tp', dr', os', out'⟩ := w'
  obtain ⟨e1, e2, e3, e4⟩ := hl
  simp only at e1 e2 e3 e4 hh
  subst e1; subst e2; subst e3
  simp only [Sort.grow, World.drewN, World.mk.injEq]
  refine ⟨hh.symm, trivial, by omega, trivial, trivial⟩
theorem flat_list {α : Type} [Inhabited α] {enc : α → List Value} {k : Nat} (hk : ∀ x, (enc x).length = k) (l : List α) : flatK enc k l.toArray = (l.flatMap enc).toArray := by
  refine ext_get! (by simp [flat_len hk]) fun t ht => ?_
  have ht' : t < l.length * k := by simpa using ht
  have k0 : 0 < k := by rcases Nat.eq_zero_or_pos k with h | h
                        · subst h; simp at ht'
                        · exact h
  rw [get_flatK _ _ _ t (by simpa using ht')]
  have hq : t / k < l.length := (Nat.div_lt_iff_lt_mul k0).2 ht'
  obtain ⟨pre, post, e1, e2⟩ := flat_get hk l (t / k) l[t / k] (List.getElem?_eq_getElem hq)
  have hm : t % k < k := Nat.mod_lt _ k0
  have ht2 : t = t / k * k + t % k := by rw [Nat.mul_comm]; exact (Nat.div_add_mod t k).symm
  have e3 : (l.flatMap enc)[t]? = some ((enc l[t / k])[t % k]'(by rw [hk]; exact hm)) := by
    rw [e1, List.append_assoc, List.getElem?_append_right (by omega), List.getElem?_append_left (by rw [hk]; omega)]
    have : t - pre.length = t % k := by omega
    rw [this, List.getElem?_eq_getElem]
  have e4 : l.toArray[t / k]! = l[t / k] := by simp [hq]
  rw [e4]
  have h5 : t < (l.flatMap enc).length := by rw [flat_len hk]; exact ht'
  rw [getElem!_pos (enc l[t / k]) (t % k) (by rw [hk]; exact hm), getElem!_pos _ t (by simpa using h5)]
  rw [List.getElem?_eq_getElem h5] at e3
  simp only [List.getElem_toArray]
  exact (Option.some.inj e3).symm
theorem holdsK_own {α : Type} [Inhabited α] {enc : α → List Value} {k : Nat} (hk : ∀ x, (enc x).length = k) {w : World} {e : TypeId} {b : Nat} {rest : List Value} {l : List α} (hb : w.heap[b]? = some (.cells (l.flatMap enc ++ rest).toArray e (0, 0))) : HoldsK enc k w b 0 l.toArray := by
  intro j hj
  rw [flat_list hk] at hj ⊢
  have hj' : j < (l.flatMap enc).length := by simpa using hj
  refine ⟨?_, by simp [World.frozen?, hb]⟩
  have e1 : (l.flatMap enc ++ rest).toArray[0 + j]? = some (l.flatMap enc)[j] := by
    rw [Nat.zero_add, List.getElem?_toArray, List.getElem?_append_left hj', List.getElem?_eq_getElem hj']
  simp only [World.cell?, hb]
  rw [getElem!_pos _ j (by simpa using hj')]
  simpa using e1
theorem put_flatK {α : Type} [Inhabited α] {enc : α → List Value} {k : Nat} (hk : ∀ x, (enc x).length = k) (l l' : List α) (rest : List Value) (hl : l'.length = l.length) : putCells id 0 (flatK enc k l'.toArray) (l.flatMap enc ++ rest).toArray = (l'.flatMap enc ++ rest).toArray := by
  rw [flat_list hk]
  have h1 := flat_len hk l
  have h2 := flat_len hk l'
  rw [hl] at h2
  apply Array.ext_getElem?
  intro i
  simp only [putCells, Array.getElem?_mapIdx, List.getElem?_toArray, List.size_toArray, Nat.zero_add, Nat.zero_le, true_and, Nat.sub_zero]
  by_cases hi : i < l.length * k
  · rw [List.getElem?_append_left (by omega), List.getElem?_append_left (by omega), List.getElem?_eq_getElem (by omega), List.getElem?_eq_getElem (by omega), Option.map_some, if_pos (by omega)]
    rw [getElem!_pos _ i (by rw [List.size_toArray]; omega)]
    simp
  · rw [List.getElem?_append_right (by omega), List.getElem?_append_right (by omega), h1, h2]
    cases rest[i - l.length * k]? with
    | none => rfl
    | some x => rw [Option.map_some, if_neg (by omega)]
/-- A call that sorts structs: by the library's contract. -/
theorem sortK_spec_of {α : Type} [Inhabited α] {P : Program} {id_ g : FuncId} {enc : α → List Value} {k : Nat} {cf : α → α → Int} (hk : ∀ x, (enc x).length = k)
    (hs : ∀ (blk cap : Nat) (l : List α) (w : World), CmpLays P g #[] enc k cf blk 0 l.length w → HoldsK enc k w blk 0 l.toArray → blk < w.heap.size → l.length < 4611686018427387904 →
      Calls P id_ #[.slice (some ⟨blk, 0, none⟩) l.length cap, .func (.func g) #[] #[]] w fun e w' => e = .returned (.tuple #[]) ∧ ∃ n os, w' = sortWorldK enc k w blk 0 n (l.mergeSort fun x y => !(ltOf cf) y x).toArray os)
    (hn : ∀ (p : Option Addr) (cap : Nat) (w : World), Calls P id_ #[.slice p 0 cap, .func (.func g) #[] #[]] w fun e w' => e = .returned (.tuple #[]) ∧ w' = w)
    (hc : ∀ x y h, Meets P g #[.agg (enc x).toArray, .agg (enc y).toArray] h fun v h' => v = .int .i64 (cf x y) ∧ Pres (fun b => b < h.size) h h')
    {e : TypeId} {s : Sl} {l : List α} {h : Heap} (ho : Own h e s k enc l) (hsz : l.length < 2 ^ 40) :
    Meets P id_ #[.slice s.ptr s.len s.cap, .func (.func g) #[] #[]] h fun v h' => v = .tuple #[] ∧ Own h' e s k enc (l.mergeSort fun x y => !(ltOf cf) y x) ∧ Pres (fun b => ¬ s.on b) h h' := by
  intro w hw
  have hlen := ho.len
  rcases ho.head with ⟨h1, h2, h3⟩ | ⟨b, rest, h1, h2, h3, h4⟩
  · subst h3
    rw [hlen, h1]
    refine (hn none s.cap w).mono ?_
    rintro e' w' ⟨rfl, rfl⟩
    have hm : (([] : List α).mergeSort fun x y => !(ltOf cf) y x) = [] := by simp
    exact ⟨_, rfl, Like.refl _, rfl, by rw [hm]; exact ⟨hlen, .inl ⟨h1, h2, rfl⟩⟩, by rw [← hw]; exact Pres.refl _ _⟩
  · rw [h1, hlen]
    have hb : w.heap[b]? = some (.cells (l.flatMap enc ++ rest).toArray e (0, 0)) := by rw [hw]; exact h2
    have hlays : CmpLays P g #[] enc k cf b 0 l.length w := fun m os dk _ x y => by
      have := hc x y _ (sortWorldK enc k w b 0 m dk os) rfl
      refine (show Calls P g (#[Value.agg (enc x).toArray, .agg (enc y).toArray] ++ #[]) _ _ from ?_)
      rw [Array.append_empty]
      refine this.mono ?_
      rintro e' w' ⟨v, rfl, hl, rfl, hp⟩
      exact ⟨rfl, grow_of hl hp⟩
    refine (hs b s.cap l w hlays (holdsK_own hk hb) (lt_of_block hb) (by omega)).mono ?_
    rintro e' w' ⟨rfl, n, os, rfl⟩
    have hlt := lt_of_block hb
    have hml : (l.mergeSort fun x y => !(ltOf cf) y x).length = l.length := List.length_mergeSort l
    have hheap : ∀ j, j < h.size → (sortWorldK enc k w b 0 n (l.mergeSort fun x y => !(ltOf cf) y x).toArray os).heap[j]? = if b = j then some (.cells ((l.mergeSort fun x y => !(ltOf cf) y x).flatMap enc ++ rest).toArray e (0, 0)) else h[j]? := by
      intro j hj
      unfold sortWorldK
      rw [Sort.heap_grow_old _ _ (by simpa [putRowK, Sort.putRow, Sort.mapBlock, Sort.ahead, hw] using hj)]
      simp only [putRowK, Sort.putRow, Sort.mapBlock, Sort.ahead, Array.getElem?_modify]
      by_cases hbk : b = j
      · subst hbk
        rw [if_pos rfl, if_pos rfl, hb, Option.map_some, Sort.onCells, put_flatK hk _ _ _ hml]
      · rw [if_neg hbk, if_neg hbk, hw]
    rw [hw] at hlt
    refine ⟨_, rfl, ⟨rfl, rfl, rfl, Nat.le_add_right _ _⟩, rfl, ⟨by rw [hml]; exact hlen, .inr ⟨b, rest, h1, ?_, h3, h4⟩⟩, ?_, ?_⟩
    · rw [hheap b hlt, if_pos rfl]
    · simp [sortWorldK, putRowK, Sort.grow, Sort.putRow, Sort.mapBlock, Sort.ahead, hw]
    · intro j hj hp
      rw [hheap j hj, if_neg (fun hbk => hp ⟨0, by rw [h1, hbk]⟩)]
end Go.Vc

namespace Go.Proofs.Ytpbdnfgjjpgpoaa
open Go Go.Vc Go.Proofs Wl
set_option maxRecDepth 100000
def fsC (s : FSt) : List Value := [.complex .f64 s.ax s.ay, .complex .f64 s.sx s.sy, .int .i64 s.left, .int .i64 s.leg, .bool s.second]
theorem some_of {o : Option Nat} (h : o.isSome = true) : o = some (o.getD 0) := by
  cases o with
  | none => cases h
  | some x => rfl
theorem start_spec (h : Heap) : Meets Try.prog plane_start_id #[] h fun v h' => ∃ a : Addr, v = .pointer (some a) ∧ Sp h h' [BoxA a T_plane_spiral (fsC fs0)] := by
  refine plane_start_run ?_
  unfold plane_start_m
  refine (Sp.refl h).boxed (t := T_plane_spiral) fun a h1 H1 => ?_
  exact ⟨a, rfl, H1⟩
theorem turn_spec (a b : Nat) (h : Heap) (h1 : (F64.mul a 0).isSome = true) (h2 : (F64.mul b one64).isSome = true) (h3 : (F64.sub (fmul a 0) (fmul b one64)).isSome = true) (h4 : (F64.mul a one64).isSome = true) (h5 : (F64.mul b 0).isSome = true) (h6 : (F64.add (fmul a one64) (fmul b 0)).isSome = true) :
    Meets Try.prog plane_Turn_id #[.complex .f64 a b, .int .i64 1] h fun v h' => v = .complex .f64 (tx a b) (ty a b) ∧ h' = h := by
  refine plane_Turn_run (a, b) 1 ?_
  unfold plane_Turn_m
  refine ⟨by decide, by decide, ?_⟩
  refine loop_inv (fun k : Nat => (if k = 0 then (a, b) else (tx a b, ty a b), (k : Int))) (fun k h' => k ≤ 1 ∧ h' = h) (fun k => 1 - k) 0 rfl ⟨by omega, rfl⟩ ?_
  rintro k h' ⟨hk, rfl⟩
  have e1 : Int.tmod (IntKind.wrap .i64 (Int.tmod 1 4 + 4)) 4 = 1 := by decide
  dsimp only
  rw [e1]
  refine br_dec (fun e => ?_) (fun e => ?_)
  · have : k = 0 := by omega
    subst this
    refine ⟨(tx a b, ty a b), raw_mul (some_of h1) (some_of h2) (some_of h3) (some_of h4) (some_of h5) (some_of h6), ?_⟩
    exact ⟨1, rfl, ⟨by omega, rfl⟩, by omega⟩
  · have : k = 1 := by omega
    subst this
    exact ⟨rfl, rfl⟩
theorem on_spec (a : Addr) (s : FSt) (h : Heap) (hb : Box h a T_plane_spiral (fsC s)) (hok : s.ok = true) : Meets Try.prog plane_spiral_on_id #[.pointer (some a)] h fun v h' => v = .tuple #[] ∧ Box h' a T_plane_spiral (fsC s.on) ∧ Pres (fun b => b ≠ a.block) h h' := by
  simp only [FSt.ok, Bool.and_eq_true, decide_eq_true_eq] at hok
  obtain ⟨⟨⟨⟨⟨⟨⟨⟨⟨⟨⟨k1, k2⟩, k3⟩, k4⟩, k5⟩, k6⟩, k7⟩, k8⟩, k9⟩, k10⟩, k11⟩, k12⟩ := hok
  refine plane_spiral_on_run (some a) ?_
  unfold plane_spiral_on_m
  have H0 : SpB (fun b => b < h.size ∧ ¬ b = a.block) h h [BoxA a T_plane_spiral (fsC s)] := .enter1 (fun b => b = a.block) (fun b hb' => by rw [hb']; exact hb.lt) ⟨hb, rfl⟩
  have fin : ∀ {h' : Heap}, SpB (fun b => b < h.size ∧ ¬ b = a.block) h h' [BoxA a T_plane_spiral (fsC s.on)] → Value.tuple #[] = .tuple #[] ∧ Box h' a T_plane_spiral (fsC s.on) ∧ Pres (fun b => b ≠ a.block) h h' := fun H =>
    ⟨rfl, H.box 0 rfl, H.pres.1, fun k hk hne => H.pres.2 k hk ⟨hk, hne⟩⟩
  refine ⟨a, rfl, (s.ax, s.ay), hb.cell0 rfl, a, rfl, (s.sx, s.sy), hb.cell rfl, (fadd s.ax s.sx, fadd s.ay s.sy), raw_add (some_of k1) (some_of k2), a, rfl, ?_⟩
  refine H0.store0 C_ok 0 rfl rfl [.complex .f64 (fadd s.ax s.sx) (fadd s.ay s.sy)] rfl rfl rfl (by simp [fsC]) fun h1 H1 => ⟨trivial, ?_⟩
  refine ⟨a, rfl, s.left, (H1.box 0 rfl).cell (j := 2) rfl, a, rfl, ?_⟩
  rw [Go.Vc.wrap_small (s.left - 1) (by omega) (by omega)]
  refine H1.storeAt C_ok 0 rfl rfl (off := 2) rfl rfl rfl (by simp [fsC]) fun h2 H2 => ?_
  refine ⟨a, rfl, s.left - 1, (H2.box 0 rfl).cell (j := 2) rfl, ?_⟩
  refine br_dec (fun e => ?_) (fun e => ?_)
  · have eo : fsC s.on = [.complex .f64 (fadd s.ax s.sx) (fadd s.ay s.sy), .complex .f64 s.sx s.sy, .int .i64 (s.left - 1), .int .i64 s.leg, .bool s.second] := by rw [FSt.on, if_pos e]; rfl
    refine fin ?_
    rw [eo]; exact H2
  · refine ⟨a, rfl, (s.sx, s.sy), (H2.box 0 rfl).cell (j := 1) rfl, (turn_spec s.sx s.sy h2 k3 k4 k5 k6 k7 k8).mono ?_⟩
    rintro v h3 ⟨rfl, rfl⟩
    refine ⟨(tx s.sx s.sy, ty s.sx s.sy), rfl, a, rfl, ?_⟩
    refine H2.storeAt C_ok 0 rfl rfl (off := 1) rfl rfl rfl (by simp [fsC]) fun h4 H4 => ?_
    refine join_cut (fun _ h' => SpB (fun b => b < h.size ∧ ¬ b = a.block) h h' [BoxA a T_plane_spiral [.complex .f64 (fadd s.ax s.sx) (fadd s.ay s.sy), .complex .f64 (tx s.sx s.sy) (ty s.sx s.sy), .int .i64 (s.left - 1), .int .i64 (if s.second then s.leg + 1 else s.leg), .bool s.second]]) ?_ ?_
    · refine ⟨a, rfl, s.second, (H4.box 0 rfl).cell (j := 4) rfl, br_b (fun e2 => ?_) (fun e2 => ?_)⟩
      · refine ⟨a, rfl, s.leg, (H4.box 0 rfl).cell (j := 3) rfl, a, rfl, ?_⟩
        rw [Go.Vc.wrap_small (s.leg + 1) (by omega) (by omega)]
        refine H4.storeAt C_ok 0 rfl rfl (off := 3) rfl rfl rfl (by simp [fsC]) fun h5 H5 => ?_
        rw [if_pos e2]; exact H5
      · rw [if_neg (by rw [e2]; decide)]; exact H4
    · rintro _ h6 H6
      refine ⟨a, rfl, s.second, (H6.box 0 rfl).cell (j := 4) rfl, a, rfl, ?_⟩
      refine H6.storeAt C_ok 0 rfl rfl (off := 4) rfl rfl rfl (by simp) fun h7 H7 => ?_
      refine ⟨a, rfl, _, (H7.box 0 rfl).cell (j := 3) rfl, a, rfl, ?_⟩
      refine H7.storeAt C_ok 0 rfl rfl (off := 2) rfl rfl rfl (by simp) fun h8 H8 => ?_
      have eo : fsC s.on = [.complex .f64 (fadd s.ax s.sx) (fadd s.ay s.sy), .complex .f64 (tx s.sx s.sy) (ty s.sx s.sy), .int .i64 (if s.second then s.leg + 1 else s.leg), .int .i64 (if s.second then s.leg + 1 else s.leg), .bool (!s.second)] := by rw [FSt.on, if_neg e]; rfl
      refine fin ?_
      rw [eo]; exact H8
theorem at_spec (n : Nat) (h : Heap) (hn : n < 64) : Meets Try.prog plane_At_id #[.int .i64 n] h fun v h' => v = .complex .f64 (fsA n).ax (fsA n).ay ∧ Sp h h' [] := by
  refine plane_At_run n ?_
  unfold plane_At_m
  refine br_dec (fun e => by omega) fun _ => br_dec (fun e => by omega) fun _ => ?_
  refine (start_spec h).mono ?_
  rintro v h1 ⟨a, rfl, R1⟩
  refine ⟨some a, rfl, ?_⟩
  refine loop_inv (fun k : Nat => (k : Int)) (fun k h' => k ≤ n ∧ Sp h h' [BoxA a T_plane_spiral (fsC (fsA k))]) (fun k => n - k) 0 rfl ⟨by omega, R1⟩ ?_
  rintro k h2 ⟨hk, H2⟩
  refine br_eq (fun e => ?_) (fun e => ?_)
  · have : k = n := by omega
    subst this
    exact ⟨a, rfl, ((fsA k).ax, (fsA k).ay), (H2.box 0 rfl).cell0 rfl, rfl, .zip H2.pres⟩
  · refine (on_spec a (fsA k) h2 (H2.box 0 rfl) (fs_ok k (by omega))).mono ?_
    rintro v h3 ⟨rfl, hb3, hp3⟩
    refine ⟨(), rfl, k + 1, by rw [Go.Vc.wrap_small _ (by omega) (by omega)]; rfl, ⟨by omega, H2.boxStep 0 rfl hp3 hb3⟩, by omega⟩
end Go.Proofs.Ytpbdnfgjjpgpoaa

namespace Go.Proofs.Ytpbdnfgjjpgpoaa
open Go Go.Vc Go.Proofs Wl
set_option maxRecDepth 100000
theorem sub_small {a b : Int} (h1 : -4 ≤ a) (h2 : a ≤ 4) (h3 : -4 ≤ b) (h4 : b ≤ 4) : F64.sub (fbits a) (fbits b) = some (fbits (a - b)) := by
  have := sub_ok (a + 4).toNat (by omega) (b + 4).toNat (by omega)
  rw [show ((a + 4).toNat : Int) - 4 = a by omega, show ((b + 4).toNat : Int) - 4 = b by omega, show ((a + 4).toNat : Int) - ((b + 4).toNat : Int) = a - b by omega] at this
  exact this
theorem mul_small {a : Int} (h1 : -8 ≤ a) (h2 : a ≤ 8) : F64.mul (fbits a) (fbits a) = some (fbits (a * a)) := by
  have := mul_ok (a + 8).toNat (by omega)
  rw [show ((a + 8).toNat : Int) - 8 = a by omega] at this
  exact this
theorem sq_abs (a : Int) : ((a.natAbs : Nat) : Int) * (a.natAbs : Nat) = a * a := Int.natAbs_mul_self
theorem add_small {a b : Int} (h1 : -8 ≤ a) (h2 : a ≤ 8) (h3 : -8 ≤ b) (h4 : b ≤ 8) : F64.add (fbits (a * a)) (fbits (b * b)) = some (fbits (a * a + b * b)) := by
  have := add_ok a.natAbs (by omega) b.natAbs (by omega)
  rw [sq_abs, sq_abs] at this
  exact this
def farI (i j : Nat) : Int := ((spiA i).x - (spiA j).x) * ((spiA i).x - (spiA j).x) + ((spiA i).y - (spiA j).y) * ((spiA i).y - (spiA j).y)
theorem sq_le {a : Int} (h1 : -8 ≤ a) (h2 : a ≤ 8) : 0 ≤ a * a ∧ a * a ≤ 64 := by
  rw [← sq_abs, ← Int.natCast_mul]
  have : a.natAbs * a.natAbs ≤ 8 * 8 := Nat.mul_le_mul (by omega) (by omega)
  omega
theorem spi_small {n : Nat} (h : n < 64) : (fsA n).ax = fbits (spiA n).x ∧ (fsA n).ay = fbits (spiA n).y ∧ -4 ≤ (spiA n).x ∧ (spiA n).x ≤ 4 ∧ -4 ≤ (spiA n).y ∧ (spiA n).y ≤ 4 := by
  have := fs_spi n h
  simp only [Bool.and_eq_true, decide_eq_true_eq, beq_iff_eq] at this
  obtain ⟨⟨⟨⟨⟨a, b⟩, c⟩, d⟩, e⟩, f⟩ := this
  exact ⟨a, b, c, d, e, f⟩
theorem far_bound {i j : Nat} (hi : i < 64) (hj : j < 64) : 0 ≤ farI i j ∧ farI i j ≤ 128 := by
  have a := spi_small hi
  have b := spi_small hj
  have h1 := sq_le (a := (spiA i).x - (spiA j).x) (by omega) (by omega)
  have h2 := sq_le (a := (spiA i).y - (spiA j).y) (by omega) (by omega)
  unfold farI; omega
theorem far_spec (i j : Nat) (h : Heap) (hi : i < 64) (hj : j < 64) : Meets Try.prog plane_Far_id #[.complex .f64 (fsA i).ax (fsA i).ay, .complex .f64 (fsA j).ax (fsA j).ay] h fun v h' => v = .float .f64 (fbits (farI i j)) ∧ h' = h := by
  have a := spi_small hi
  have b := spi_small hj
  refine plane_Far_run ((fsA i).ax, (fsA i).ay) ((fsA j).ax, (fsA j).ay) ?_
  unfold plane_Far_m
  have hx : F64.sub (fsA i).ax (fsA j).ax = some (fbits ((spiA i).x - (spiA j).x)) := by rw [a.1, b.1]; exact sub_small (by omega) (by omega) (by omega) (by omega)
  have hy : F64.sub (fsA i).ay (fsA j).ay = some (fbits ((spiA i).y - (spiA j).y)) := by rw [a.2.1, b.2.1]; exact sub_small (by omega) (by omega) (by omega) (by omega)
  refine ⟨(fbits ((spiA i).x - (spiA j).x), fbits ((spiA i).y - (spiA j).y)), raw_sub hx hy, _, mul_small (by omega) (by omega), _, mul_small (by omega) (by omega), _, add_small (by omega) (by omega) (by omega) (by omega), rfl, rfl⟩
abbrev eInt : ElemOk C.toCfg T_sl_int T_int 1 [.int .i64 0] 8 := ⟨_, _, rfl, rfl, rfl, rfl, rfl, rfl⟩
/-! ### Comparing -/
def cmpI (a b : Int) : Int := if a < b then -1 else if a > b then 1 else 0
theorem nan_spec (m : Nat) (h : Heap) (hm : m < 129) : Meets Try.prog cmp_isNaN_float64_id #[.float .f64 (fbits (m : Nat))] h fun v h' => v = .bool false ∧ h' = h := by
  refine cmp_isNaN_float64_run _ ?_
  unfold cmp_isNaN_float64_m
  have := ord_ok m hm m hm
  rw [show (FloatKind.format .f64).order (fbits (m : Nat)) (fbits (m : Nat)) = some (compare m m) from this, Nat.compare_eq_eq.2 rfl]
  exact ⟨rfl, rfl⟩
theorem cmpF_spec (m n : Nat) (h : Heap) (hm : m < 129) (hn : n < 129) : Meets Try.prog cmp_Compare_float64_id #[.float .f64 (fbits (m : Nat)), .float .f64 (fbits (n : Nat))] h fun v h' => v = .int .i64 (cmpI m n) ∧ h' = h := by
  refine cmp_Compare_float64_run _ _ ?_
  unfold cmp_Compare_float64_m
  refine (nan_spec m h hm).mono ?_
  rintro v h1 ⟨rfl, rfl⟩
  refine ⟨_, rfl, (nan_spec n h1 hn).mono ?_⟩
  rintro v h2 ⟨rfl, rfl⟩
  refine ⟨_, rfl, br_b (fun e => by cases e) fun _ => br_b (fun e => by cases e) fun _ => ?_⟩
  have ho : (FloatKind.format .f64).order (fbits (m : Nat)) (fbits (n : Nat)) = some (compare m n) := ord_ok m hm n hn
  rw [ho]
  rcases Nat.lt_trichotomy m n with h1 | h1 | h1
  · rw [Nat.compare_eq_lt.2 h1]
    refine br_b (fun _ => ⟨by rw [cmpI, if_pos (by omega)], rfl⟩) (fun e => by cases e)
  · subst h1
    rw [Nat.compare_eq_eq.2 rfl]
    refine br_b (fun e => by cases e) fun _ => br_b (fun e => by cases e) fun _ => ⟨by rw [cmpI, if_neg (by omega), if_neg (by omega)], rfl⟩
  · rw [Nat.compare_eq_gt.2 h1]
    refine br_b (fun e => by cases e) fun _ => br_b (fun _ => ⟨by rw [cmpI, if_neg (by omega), if_pos (by omega)], rfl⟩) (fun e => by cases e)
theorem nanI_spec (m : Int) (h : Heap) : Meets Try.prog cmp_isNaN_int_id #[.int .i64 m] h fun v h' => v = .bool false ∧ h' = h := by
  refine cmp_isNaN_int_run _ ?_
  unfold cmp_isNaN_int_m
  exact ⟨by simp, rfl⟩
theorem cmpI_spec (m n : Int) (h : Heap) : Meets Try.prog cmp_Compare_int_id #[.int .i64 m, .int .i64 n] h fun v h' => v = .int .i64 (cmpI m n) ∧ h' = h := by
  refine cmp_Compare_int_run _ _ ?_
  unfold cmp_Compare_int_m
  refine (nanI_spec m h).mono ?_
  rintro v h1 ⟨rfl, rfl⟩
  refine ⟨_, rfl, (nanI_spec n h1).mono ?_⟩
  rintro v h2 ⟨rfl, rfl⟩
  refine ⟨_, rfl, br_b (fun e => by cases e) fun _ => br_b (fun e => by cases e) fun _ => ?_⟩
  refine br_dec (fun e => ⟨by rw [cmpI, if_pos e], rfl⟩) fun e => br_dec (fun e2 => ⟨by rw [cmpI, if_neg e, if_pos e2], rfl⟩) fun e2 => ⟨by rw [cmpI, if_neg e, if_neg e2], rfl⟩
/-- The first that is not 0. -/
def orI (a b : Int) : Int := if a ≠ 0 then a else b
theorem or_spec (s : Sl) (a b : Int) (h : Heap) (hs : Rd h s 1 intv [a, b]) : Meets Try.prog cmp_Or_int_id #[.slice s.ptr s.len s.cap] h fun v h' => v = .int .i64 (orI a b) ∧ h' = h := by
  refine cmp_Or_int_run s ?_
  unfold cmp_Or_int_m
  have hl : s.len = 2 := hs.len
  refine loop_inv (fun k : Nat => (k : Int)) (fun k h' => h' = h ∧ k ≤ 2 ∧ (1 ≤ k → a = 0) ∧ (2 ≤ k → b = 0)) (fun k => 2 - k) 0 rfl ⟨rfl, by omega, by omega, by omega⟩ ?_
  rintro k h' ⟨rfl, hk, k1, k2⟩
  refine br_dec (fun e => ?_) (fun e => ?_)
  · rcases (show k = 0 ∨ k = 1 by omega) with rfl | rfl
    · refine hs.get1 0 rfl (by simp) a rfl ?_
      refine br_ne (fun e0 => ⟨by rw [orI, if_pos e0], rfl⟩) (fun e0 => ?_)
      exact ⟨1, rfl, ⟨rfl, by omega, fun _ => e0, by omega⟩, by omega⟩
    · refine hs.get1 1 rfl (by simp) b rfl ?_
      have ha := k1 (by omega)
      refine br_ne (fun e0 => ⟨by rw [orI, if_neg (by simp [ha])], rfl⟩) (fun e0 => ?_)
      exact ⟨2, rfl, ⟨rfl, by omega, fun _ => ha, fun _ => e0⟩, by omega⟩
  · have ha := k1 (by omega)
    have hb := k2 (by omega)
    exact ⟨by rw [orI, if_neg (by simp [ha]), hb], rfl⟩
/-- A drive, and how far it is. -/
abbrev Fr := Int × Fin 129
def frv (x : Fr) : List Value := [.int .i64 x.1, .float .f64 (fbits ((x.2 : Nat) : Int))]
def cfI (x y : Fr) : Int := orI (cmpI (x.2 : Nat) (y.2 : Nat)) (cmpI x.1 y.1)
theorem closure_spec (x y : Fr) (h : Heap) : Meets Try.prog place_Order_1_id #[.agg (frv x).toArray, .agg (frv y).toArray] h fun v h' => v = .int .i64 (cfI x y) ∧ Pres (fun b => b < h.size) h h' := by
  refine place_Order_1_run (x.1, fbits ((x.2 : Nat) : Int)) (y.1, fbits ((y.2 : Nat) : Int)) ?_
  unfold place_Order_1_m
  refine (Sp.refl h).boxed (t := T_place_far) fun a h1 H1 => ?_
  refine H1.boxed (t := T_place_far) fun b h2 H2 => ?_
  refine ⟨_, (H2.box 0 rfl).cell (j := 1) rfl, _, (H2.box 1 rfl).cell (j := 1) rfl, _, (H2.box 0 rfl).cell0 rfl, _, (H2.box 1 rfl).cell0 rfl, ?_⟩
  refine (cmpF_spec x.2 y.2 h2 x.2.isLt y.2.isLt).mono ?_
  rintro v h3 ⟨rfl, rfl⟩
  refine ⟨_, rfl, ⟨(H2.box 1 rfl).cell0 rfl, (H2.box 0 rfl).cell0 rfl, trivial⟩, (cmpI_spec _ _ h3).mono ?_⟩
  rintro v h4 ⟨rfl, rfl⟩
  refine ⟨_, rfl, trivial, ?_⟩
  refine H2.lit C_ok intv eInt rfl [cmpI (x.2 : Nat) (y.2 : Nat), cmpI x.1 y.1] rfl (show 2 * 1 ≤ 2 ^ 20 by decide) rfl fun s h5 H5 => ⟨trivial, ?_⟩
  refine (or_spec s _ _ h5 (H5.seq 2 rfl (fun _ => rfl))).mono ?_
  rintro v h6 ⟨rfl, rfl⟩
  exact ⟨_, rfl, trivial, rfl, H5.pres⟩
theorem cmpI_lt {a b : Int} : cmpI a b < 0 ↔ a < b := by unfold cmpI; split <;> (try split) <;> omega
theorem cmpI_zero {a b : Int} : cmpI a b = 0 ↔ a = b := by unfold cmpI; split <;> (try split) <;> omega
/-- The nearer first, of like ones the least. -/
theorem lt_cf {x y : Fr} : ltOf cfI x y = true ↔ ((x.2 : Nat) : Int) < (y.2 : Nat) ∨ (((x.2 : Nat) : Int) = (y.2 : Nat) ∧ x.1 < y.1) := by
  have h0 : ltOf cfI x y = true ↔ cfI x y < 0 := by simp [ltOf]
  rw [h0, cfI, orI]
  by_cases h : cmpI (x.2 : Nat) (y.2 : Nat) = 0
  · rw [if_neg (by simp [h]), cmpI_lt]
    have := cmpI_zero.1 h
    constructor
    · exact fun h2 => .inr ⟨this, h2⟩
    · rintro (h2 | h2)
      · omega
      · exact h2.2
  · rw [if_pos h, cmpI_lt]
    have hne : ((x.2 : Nat) : Int) ≠ (y.2 : Nat) := fun e => h (cmpI_zero.2 e)
    constructor
    · exact .inl
    · rintro (h2 | h2)
      · exact h2
      · exact absurd h2.1 hne
theorem lt_cf_not {x y : Fr} : ltOf cfI x y = false ↔ ¬ (((x.2 : Nat) : Int) < (y.2 : Nat) ∨ (((x.2 : Nat) : Int) = (y.2 : Nat) ∧ x.1 < y.1)) := by
  rw [← lt_cf]; simp
theorem swo_cf : Sort.SWO (ltOf cfI) where
  irrefl x := lt_cf_not.2 (by omega)
  trans x y z h1 h2 := by rw [lt_cf] at *; omega
  ntrans x y z h1 h2 := by rw [lt_cf_not] at *; omega
theorem tot_cf (x y : Fr) (h1 : ltOf cfI x y = false) (h2 : ltOf cfI y x = false) : x = y := by
  rw [lt_cf_not] at h1 h2
  refine Prod.ext (by omega) (Fin.ext (by omega))
theorem sortFar_spec {e : TypeId} {s : Sl} {l : List Fr} {h : Heap} (ho : Own h e s 2 frv l) (hsz : l.length < 2 ^ 40) :
    Meets Try.prog 20 #[.slice s.ptr s.len s.cap, .func (.func 21) #[] #[]] h fun v h' => v = .tuple #[] ∧ Own h' e s 2 frv (l.mergeSort fun x y => !(ltOf cfI) y x) ∧ Pres (fun b => ¬ s.on b) h h' := by
  have hk : ∀ x : Fr, (frv x).length = 2 := fun _ => rfl
  refine sortK_spec_of (P := Try.prog) (id_ := 20) (g := 21) (enc := frv) (k := 2) (cf := cfI) hk ?_ ?_ (fun x y h => closure_spec x y h) ho hsz
  · intro blk cap l w hc hH hb hz
    have := AnyQ.slices_SortFunc_total Try.sortFar 2 Try.isAgg43 Try.sizeOf43 frv (fun _ => rfl) (fun x v hv => by simp [frv] at hv; rcases hv with rfl | rfl <;> rfl) cfI swo_cf 21 #[] blk 0 cap l.toArray w (enters_of Try.func21 (by kernel_rfl) rfl) (by simpa using hc) hH hb (by simpa using hz) tot_cf
    simp at this
    exact this
  · intro p cap w
    exact AnyF.slices_SortFunc_none Try.sortFar p cap _ w
end Go.Proofs.Ytpbdnfgjjpgpoaa

namespace Go.Proofs.Ytpbdnfgjjpgpoaa
open Go Go.Vc Go.Proofs Wl
set_option maxRecDepth 100000
/-- Each drive once, as it comes. -/
def addOne (acc : List Int) (n : Int) : List Int := if 0 ≤ n ∧ n < 64 ∧ acc.contains n = false then acc ++ [n] else acc
def pickL (l : List Int) : List Int := l.foldl addOne []
theorem pick_snoc (l : List Int) {k : Nat} (hk : k < l.length) : pickL (l.take (k + 1)) = addOne (pickL (l.take k)) l[k] := by
  rw [pickL, take_snoc _ _ hk, List.foldl_append]; rfl
theorem pick_mem (l : List Int) : ∀ k, k ≤ l.length → ∀ x, x ∈ pickL (l.take k) ↔ x ∈ l.take k ∧ 0 ≤ x ∧ x < 64
  | 0, _, x => by simp [pickL]
  | k + 1, hk, x => by
    have ih := pick_mem l k (by omega)
    rw [pick_snoc l (by omega), take_snoc _ _ (show k < l.length by omega), addOne]
    by_cases h : 0 ≤ l[k] ∧ l[k] < 64 ∧ (pickL (l.take k)).contains l[k] = false
    · rw [if_pos h, List.mem_append, List.mem_append, List.mem_singleton, ih x]
      constructor
      · rintro (h1 | rfl)
        · exact ⟨.inl h1.1, h1.2⟩
        · exact ⟨.inr rfl, h.1, h.2.1⟩
      · rintro ⟨h1 | h1, h2⟩
        · exact .inl ⟨h1, h2⟩
        · exact .inr h1
    · rw [if_neg h, List.mem_append, List.mem_singleton, ih x]
      constructor
      · rintro h1; exact ⟨.inl h1.1, h1.2⟩
      · rintro ⟨h1 | rfl, h2⟩
        · exact ⟨h1, h2⟩
        · have : (pickL (l.take k)).contains l[k] = true := by
            cases hc : (pickL (l.take k)).contains l[k] with
            | true => rfl
            | false => exact absurd ⟨h2.1, h2.2, hc⟩ h
          exact (ih _).1 (by simpa using this)
theorem pick_nodup (l : List Int) : ∀ k, k ≤ l.length → (pickL (l.take k)).Nodup
  | 0, _ => by simp [pickL]
  | k + 1, hk => by
    have ih := pick_nodup l k (by omega)
    rw [pick_snoc l (by omega), addOne]
    split
    · rename_i h
      rw [List.nodup_append]
      refine ⟨ih, by simp, fun a ha b hb => ?_⟩
      rw [List.mem_singleton.1 hb]
      rintro rfl
      have := h.2.2
      rw [List.contains_eq_mem] at this
      simp [ha] at this
    · exact ih
theorem pick_len (l : List Int) (k : Nat) : (pickL (l.take k)).length ≤ k := by
  induction k with
  | zero => simp [pickL]
  | succ k ih =>
    by_cases hk : k < l.length
    · rw [pick_snoc l hk, addOne]
      split
      · simp; omega
      · omega
    · rw [List.take_of_length_le (by omega)] at ih ⊢; omega
def frOf (c : Nat) (n : Int) : Fr := (n, Fin.ofNat 129 (farI n.toNat c).toNat)
theorem fr_far {c : Nat} {n : Int} (hc : c < 64) (h1 : 0 ≤ n) (h2 : n < 64) : (((frOf c n).2 : Nat) : Int) = farI n.toNat c := by
  have := far_bound (i := n.toNat) (j := c) (by omega) hc
  show (((farI n.toNat c).toNat % 129 : Nat) : Int) = _
  omega
/-- The order of drives. -/
def orderL (c : Nat) (l : List Int) : List Int := (((pickL l).map (frOf c)).mergeSort fun x y => !(ltOf cfI) y x).map (·.1)
def orderP (object block : Int) (l : List Int) : List Int := if 0 ≤ object ∧ object ≤ 16777215 ∧ 0 ≤ block ∧ block < 8 then orderL ((8 * object + block) % 64).toNat l else []
def seenC (acc : List Int) : List Value := (List.range 64).map fun i : Nat => .bool (acc.contains (i : Int))
theorem seen_at (acc : List Int) {n : Int} (h1 : 0 ≤ n) (h2 : n < 64) : (seenC acc)[n.toNat]? = some (.bool (acc.contains n)) := by
  rw [seenC, List.getElem?_map, List.getElem?_range (by omega), Option.map_some, show ((n.toNat : Nat) : Int) = n by omega]
theorem seen_set (acc : List Int) {n : Int} (h1 : 0 ≤ n) (h2 : n < 64) : (seenC acc).set n.toNat (.bool true) = seenC (acc ++ [n]) := by
  apply List.ext_getElem?
  intro i
  rw [List.getElem?_set, seenC, seenC, List.getElem?_map, List.getElem?_map, List.length_map, List.length_range]
  by_cases hi : i < 64
  · rw [List.getElem?_range hi, Option.map_some, Option.map_some]
    by_cases h : n.toNat = i
    · rw [if_pos h, if_pos (by omega), show ((i : Nat) : Int) = n by omega]
      simp
    · rw [if_neg h]
      have : (acc ++ [n]).contains (i : Int) = acc.contains (i : Int) := by
        rw [List.contains_eq_mem, List.contains_eq_mem]
        simp; omega
      rw [this]
  · rw [if_neg (by omega), List.getElem?_eq_none (by simp; omega)]; rfl
abbrev eFr : ElemOk C.toCfg T_sl_place_far T_place_far 2 [.int .i64 0, .float .f64 0] 16 := ⟨_, _, rfl, rfl, rfl, rfl, rfl, rfl⟩
theorem one_fr : ∀ x, ∀ c ∈ frv x, c.oneCell' = true := by
  intro x c hc
  simp [frv] at hc
  rcases hc with rfl | rfl <;> rfl
set_option maxHeartbeats 2000000 in
theorem order_spec (object block : Int) (live : Sl) (l : List Int) (h : Heap) (hl : Rd h live 1 intv l) (hsz : l.length ≤ 2 ^ 30) :
    Meets Try.prog place_Order_id #[.int .i64 object, .int .i64 block, .slice live.ptr live.len live.cap] h fun v h' => ∃ r : Sl, v = .slice r.ptr r.len r.cap ∧ Sp h h' [OwnA T_int r 1 intv (orderP object block l)] := by
  have hll := hl.len
  refine place_Order_run object block live ?_
  unfold place_Order_m
  have no : ¬ (0 ≤ object ∧ object ≤ 16777215 ∧ 0 ≤ block ∧ block < 8) → ∃ r : Sl, Value.slice none 0 0 = .slice r.ptr r.len r.cap ∧ Sp h h [OwnA T_int r 1 intv (orderP object block l)] := fun hn => by
    rw [orderP, if_neg hn]; exact ⟨⟨none, 0, 0⟩, rfl, (Sp.refl h).nil T_int 1 intv⟩
  refine join_in (br_dec (fun e => no (by omega)) fun e1 => br_dec (fun e => no (by omega)) fun e2 => br_dec (fun e => no (by omega)) fun e3 => br_dec (fun e => no (by omega)) fun e4 => ?_)
  have hin : 0 ≤ object ∧ object ≤ 16777215 ∧ 0 ≤ block ∧ block < 8 := by omega
  rw [orderP, if_pos hin]
  rw [Go.Vc.wrap_small (8 * object) (by omega) (by omega), Go.Vc.wrap_small (8 * object + block) (by omega) (by omega), Int.tmod_eq_emod_of_nonneg (by omega)]
  obtain ⟨c, hc⟩ : ∃ c : Nat, (8 * object + block) % 64 = c := ⟨((8 * object + block) % 64).toNat, by omega⟩
  have hc64 : c < 64 := by omega
  rw [hc, Int.toNat_natCast]
  refine ⟨by decide, (at_spec c h hc64).mono ?_⟩
  rintro v h2 ⟨rfl, R2⟩
  refine ⟨((fsA c).ax, (fsA c).ay), rfl, ?_⟩
  refine R2.alloc C_ok rfl fun a h3 H3 => ?_
  have H3' : Sp h h3 [BoxA a 41 (seenC []), OwnA T_place_far ⟨none, 0, 0⟩ 2 frv []] := H3.nil T_place_far 2 frv
  refine loop_inv (fun t : Sl × Nat => (t.1, (t.2 : Int))) (fun t h' => t.2 ≤ l.length ∧ Sp h h' [BoxA a 41 (seenC (pickL (l.take t.2))), OwnA T_place_far t.1 2 frv ((pickL (l.take t.2)).map (frOf c))]) (fun t => l.length - t.2) (⟨none, 0, 0⟩, 0) rfl ⟨by simp, H3'⟩ ?_
  rintro ⟨s, k⟩ h4 ⟨hk, H4⟩
  dsimp only at *
  have hpl := pick_len l k
  refine br_dec (fun e => ?_) (fun e => ?_)
  · have hk' : k < l.length := by omega
    have hs := pick_snoc l hk'
    obtain ⟨acc, hacc⟩ : ∃ acc, acc = pickL (l.take k) := ⟨_, rfl⟩
    rw [← hacc] at H4 hpl hs
    refine (Seq.up hl H4.pres).get1 k rfl hk' _ rfl ?_
    obtain ⟨x, hx⟩ : ∃ x, x = l[k] := ⟨_, rfl⟩
    rw [← hx] at hs ⊢
    refine join_cut (fun t h' => (t = true ↔ 0 ≤ x ∧ x < 64 ∧ acc.contains x = false) ∧ h' = h4) ?_ ?_
    · refine br_dec (fun x0 => br_dec (fun x1 => ?_) (fun x1 => ⟨⟨fun e => (by cases e), fun hh => absurd hh.2.1 x1⟩, rfl⟩)) (fun x0 => ⟨⟨fun e => (by cases e), fun hh => absurd hh.1 x0⟩, rfl⟩)
      refine ⟨⟨x0, x1⟩, acc.contains x, ?_, ?_, rfl⟩
      · rw [Nat.mul_one]; exact (H4.box 0 rfl).cell (seen_at acc x0 x1)
      · cases acc.contains x <;> simp <;> omega
    · rintro t h5 ⟨ht, rfl⟩
      refine br_b (fun e => ?_) (fun e => ?_)
      · obtain ⟨x0, x1, x2⟩ := ht.1 e
        refine ⟨⟨x0, x1⟩, ?_⟩
        rw [Nat.mul_one]
        refine H4.storeAt C_ok 0 rfl rfl rfl rfl rfl (by simp [seenC]; omega) fun h6 H6 => ?_
        have H6' : Sp h h6 [BoxA a 41 (seenC (acc ++ [x])), OwnA T_place_far s 2 frv (acc.map (frOf c))] := by
          rw [← seen_set acc x0 x1]; exact H6
        obtain ⟨n, hn⟩ : ∃ n : Nat, x = n := ⟨x.toNat, by omega⟩
        subst hn
        refine (at_spec n h6 (by omega)).mono ?_
        rintro v h7 ⟨rfl, R7⟩
        refine ⟨((fsA n).ax, (fsA n).ay), rfl, (far_spec n c h7 (by omega) hc64).mono ?_⟩
        rintro v h8 ⟨rfl, rfl⟩
        have H8 := H6'.up R7.pres
        have ev : fbits (farI n c) = fbits (((frOf c (n : Int)).2 : Nat) : Int) := by rw [fr_far hc64 (by omega) (by omega), Int.toNat_natCast]
        refine ⟨_, rfl, ?_⟩
        rw [ev]
        refine H8.push C_ok 1 rfl eFr rfl (by decide) (fun _ => rfl) one_fr (frOf c (n : Int)) rfl (by decide) (by simp; omega) fun s' h9 H9 => ?_
        refine ⟨(s', k + 1), by dsimp only; rw [Go.Vc.wrap_small _ (by omega) (by omega)]; rfl, ⟨by dsimp only; omega, ?_⟩, by dsimp only; omega⟩
        dsimp only
        rw [hs, addOne, if_pos ⟨x0, x1, x2⟩, List.map_append]
        exact H9
      · refine ⟨(s, k + 1), by dsimp only; rw [Go.Vc.wrap_small _ (by omega) (by omega)]; rfl, ⟨by dsimp only; omega, ?_⟩, by dsimp only; omega⟩
        dsimp only
        rw [hs, addOne, if_neg (fun hh => by rw [ht.2 hh] at e; cases e)]
        exact H4
  have hkl : k = l.length := by omega
  subst hkl
  rw [List.take_length] at H4 hpl
  refine (sortFar_spec (H4.own 1 rfl) (by simp; omega)).mono ?_
  rintro v h5 ⟨rfl, ho5, hp5⟩
  have H5 := H4.ownStep 1 rfl hp5 ho5
  obtain ⟨srt, hsrt⟩ : ∃ srt, srt = ((pickL l).map (frOf c)).mergeSort fun x y => !(ltOf cfI) y x := ⟨_, rfl⟩
  have hsl : srt.length = (pickL l).length := by rw [hsrt, List.length_mergeSort, List.length_map]
  have eo : orderL c l = srt.map (·.1) := by rw [orderL, ← hsrt]
  rw [← hsrt] at H5
  have hfl := (H5.own 1 rfl).len
  rw [eo]
  refine ⟨(), rfl, ?_⟩
  refine loop_inv (fun t : Sl × Nat => (t.1, (t.2 : Int))) (fun t h' => t.2 ≤ srt.length ∧ Sp h h' [OwnA T_place_far s 2 frv srt, OwnA T_int t.1 1 intv ((srt.take t.2).map (·.1))]) (fun t => srt.length - t.2) (⟨none, 0, 0⟩, 0) rfl ⟨by simp, (H5.del 0).nil T_int 1 intv⟩ ?_
  rintro ⟨o, i⟩ h6 ⟨hi, H6⟩
  dsimp only at *
  refine br_dec (fun e => ?_) (fun e => ?_)
  · have hi' : i < srt.length := by omega
    refine (H6.seq 0 rfl (fun _ => rfl)).getk i rfl hi' (srt[i].1, fbits ((srt[i].2 : Nat) : Int)) rfl ?_
    refine H6.alloc C_ok rfl fun y h7 H7 => ?_
    refine H7.storeAll C_ok 2 rfl rfl [.int .i64 srt[i].1, .float .f64 (fbits ((srt[i].2 : Nat) : Int))] rfl rfl rfl rfl fun h8 H8 => ?_
    refine ⟨srt[i].1, (H8.box 2 rfl).cell0 rfl, ?_⟩
    refine H8.push C_ok 1 rfl eInt rfl (by decide) (fun _ => rfl) one_int srt[i].1 rfl (by decide) (by simp; omega) fun o' h9 H9 => ?_
    refine ⟨(o', i + 1), by dsimp only; rw [Go.Vc.wrap_small _ (by omega) (by omega)]; rfl, ⟨by dsimp only; omega, ?_⟩, by dsimp only; omega⟩
    dsimp only
    rw [take_snoc _ _ hi', List.map_append]
    exact H9.del 2
  · rw [List.take_of_length_le (by omega)] at H6
    exact ⟨o, rfl, H6.take 1 (fun i A hi => by cases i with | zero => exact hi | succ i => simp at hi)⟩
end Go.Proofs.Ytpbdnfgjjpgpoaa

namespace Go.Proofs.Ytpbdnfgjjpgpoaa
open Go Go.Vc Go.Proofs Wl
set_option maxRecDepth 100000
theorem within_spec (x n : Int) (h : Heap) (hn : 0 < n) (hb : n ≤ 2 ^ 62) : Meets Try.prog wellspringkeep_Within_id #[.int .i64 x, .int .i64 n] h fun v h' => v = .int .i64 (x % n) ∧ h' = h := by
  refine wellspringkeep_Within_run x n ?_
  unfold wellspringkeep_Within_m
  have h1 := Int.tmod_lt_of_pos x hn
  have h2 : -n < x.tmod n := Int.lt_tmod_of_pos x hn
  have he := tmod_fix x n hn
  refine ⟨by omega, join_in ?_⟩
  refine br_dec (fun hlt => ?_) (fun hge => ?_)
  · rw [wrap_small _ (by omega) (by omega)]
    exact ⟨by rw [he, if_pos hlt], rfl⟩
  · exact ⟨by rw [he, if_neg hge], rfl⟩
theorem same_int_spec {p q : Blocks} (a b : Sl) (la lb : List Int) (h : Heap) (ha : Seq h p a 1 intv la) (hb : Seq h q b 1 intv lb) (hs : la.length ≤ 2 ^ 40) :
    Meets Try.prog wellspringkeep_Same_int_id #[.slice a.ptr a.len a.cap, .slice b.ptr b.len b.cap] h fun v h' => v = .bool (decide (la = lb)) ∧ h' = h := by
  refine wellspringkeep_Same_int_run a b ?_
  unfold wellspringkeep_Same_int_m
  have hal := ha.len; have hbl := hb.len
  refine br_ne (fun hne => ⟨?_, rfl⟩) (fun heq => ?_)
  · rw [decide_eq_false (fun e => hne (by rw [hal, hbl, e]))]
  · refine loop_inv (fun k : Nat => (k : Int)) (fun k h' => h' = h ∧ k ≤ la.length ∧ la.take k = lb.take k) (fun k => la.length - k) 0 rfl ⟨rfl, by omega, by simp⟩ ?_
    rintro k h' ⟨rfl, hk, ht⟩
    refine br_dec (fun hlt => ?_) (fun hge => ?_)
    · have hk' : k < la.length := by omega
      have hk2 : k < lb.length := by omega
      refine ha.get1 k rfl hk' _ rfl ?_
      refine hb.get1 k rfl hk2 _ rfl ?_
      refine br_ne (fun hne => ⟨?_, rfl⟩) (fun heq => ?_)
      · rw [decide_eq_false]
        intro e; subst e; exact hne rfl
      · rw [wrap_small _ (by omega) (by omega)]
        exact ⟨k + 1, by simp, ⟨rfl, by omega, by rw [take_snoc _ _ hk', take_snoc _ _ hk2, ht, heq]⟩, by omega⟩
    · have : k = la.length := by omega
      subst this
      rw [List.take_of_length_le (by omega), List.take_of_length_le (by omega)] at ht
      exact ⟨by rw [decide_eq_true ht], rfl⟩

/-! ### The order, as a list -/
def lessK (c : Nat) (a b : Int) : Prop := farI a.toNat c < farI b.toNat c ∨ (farI a.toNat c = farI b.toNat c ∧ a < b)
theorem pick_all (l : List Int) (x : Int) : x ∈ pickL l ↔ x ∈ l ∧ 0 ≤ x ∧ x < 64 := by
  have := pick_mem l l.length (Nat.le_refl _) x
  rwa [List.take_length] at this
theorem pick_nd (l : List Int) : (pickL l).Nodup := by
  have := pick_nodup l l.length (Nat.le_refl _)
  rwa [List.take_length] at this
theorem order_perm (c : Nat) (l : List Int) : (orderL c l).Perm (pickL l) := by
  have h := (List.mergeSort_perm ((pickL l).map (frOf c)) fun x y => !(ltOf cfI) y x).map (·.1)
  rw [List.map_map] at h
  have e : ((fun x : Fr => x.1) ∘ frOf c) = id := rfl
  rw [e, List.map_id] at h
  exact h
theorem order_mem (c : Nat) (l : List Int) (x : Int) : x ∈ orderL c l ↔ x ∈ l ∧ 0 ≤ x ∧ x < 64 := by rw [(order_perm c l).mem_iff, pick_all]
theorem order_nd (c : Nat) (l : List Int) : (orderL c l).Nodup := (order_perm c l).nodup_iff.2 (pick_nd l)
theorem order_sorted (c : Nat) (l : List Int) (hc : c < 64) : (orderL c l).Pairwise (lessK c) := by
  have h := List.pairwise_mergeSort (le := fun x y : Fr => !(ltOf cfI) y x) (by
    intro a b d h1 h2
    simp only [Bool.not_eq_true', lt_cf_not] at *
    omega) (by
    intro a b
    cases h1 : ltOf cfI b a with
    | false => rfl
    | true =>
      have : ltOf cfI a b = false := by rw [lt_cf] at h1; rw [lt_cf_not]; omega
      rw [this]; rfl) ((pickL l).map (frOf c))
  have hm : ∀ x ∈ ((pickL l).map (frOf c)).mergeSort (fun x y : Fr => !(ltOf cfI) y x), x = frOf c x.1 ∧ 0 ≤ x.1 ∧ x.1 < 64 := fun x hx => by
    have := (List.mergeSort_perm _ _).mem_iff.1 hx
    obtain ⟨n, hn, rfl⟩ := List.mem_map.1 this
    exact ⟨rfl, ((pick_all l n).1 hn).2⟩
  have hnd := order_nd c l
  unfold orderL at hnd ⊢
  rw [List.pairwise_map]
  rw [List.nodup_iff_pairwise_ne, List.pairwise_map] at hnd
  refine (h.and hnd).imp_of_mem fun {a b} ha hb hh => ?_
  obtain ⟨ea, a0, a1⟩ := hm a ha
  obtain ⟨eb, b0, b1⟩ := hm b hb
  have h1 := hh.1
  simp only [Bool.not_eq_true', lt_cf_not] at h1
  have fa := fr_far hc a0 a1
  have fb := fr_far hc b0 b1
  rw [← ea] at fa
  rw [← eb] at fb
  have h2 := hh.2
  unfold lessK
  omega
theorem order_unique {c : Nat} {l o : List Int} (hc : c < 64) (hp : o.Perm (pickL l)) (hs : o.Pairwise (lessK c)) : orderL c l = o := by
  refine ((order_perm c l).trans hp.symm).eq_of_pairwise (le := lessK c) ?_ (order_sorted c l hc) hs
  intro a b _ _ h1 h2
  unfold lessK at h1 h2
  omega
theorem order_len_nil {c : Nat} {l : List Int} (h : orderL c l = []) (hin : ∀ x ∈ l, 0 ≤ x ∧ x < 64) : l = [] := by
  cases l with
  | nil => rfl
  | cons a t =>
    have := (order_mem c (a :: t) a).2 ⟨by simp, hin a (by simp)⟩
    rw [h] at this; cases this
theorem wake_order : orderP 0 0 [1, 0] = [0, 1] := by
  rw [orderP, if_pos (by decide)]
  refine order_unique (by decide) ?_ ?_
  · exact List.Perm.swap 1 0 []
  · simp only [List.pairwise_cons, List.mem_cons, List.not_mem_nil, or_false, forall_eq, List.Pairwise.nil, and_true, false_imp_iff, implies_true]
    exact .inl (by decide)
/-! ### Of -/
def getI' (l : List Int) (i : Nat) : Int := l.getD i 0
def ofI (o : List Int) (id : Int) : Int := if o = [] ∨ id < 0 then -1 else getI' o (id % (o.length : Int)).toNat
theorem of_spec (s : Sl) (o : List Int) (id : Int) (h : Heap) (hs : Rd h s 1 intv o) : Meets Try.prog place_Of_id #[.slice s.ptr s.len s.cap, .int .i64 id] h fun v h' => v = .int .i64 (ofI o id) ∧ h' = h := by
  have hl := hs.len
  refine place_Of_run s id ?_
  unfold place_Of_m
  refine join_in (br_eq (fun e => ⟨by rw [ofI, if_pos (.inl (List.eq_nil_of_length_eq_zero (by omega)))], rfl⟩) fun e => br_dec (fun e2 => ⟨by rw [ofI, if_pos (.inr e2)], rfl⟩) fun e2 => ?_)
  refine ⟨e, ?_⟩
  have hne : ¬ (o = [] ∨ id < 0) := by
    rintro (rfl | h2)
    · simp at hl; omega
    · exact e2 h2
  have hem : Int.tmod id ((s.len : Nat) : Int) = ((id % (o.length : Int)).toNat : Int) := by
    rw [Int.tmod_eq_emod_of_nonneg (by omega), hl]
    have := Int.emod_nonneg id (show (o.length : Int) ≠ 0 by omega)
    omega
  have hlt : (id % (o.length : Int)).toNat < o.length := by
    have := Int.emod_lt_of_pos id (show (0 : Int) < o.length by omega)
    omega
  rw [hem]
  refine hs.get1 _ rfl hlt _ rfl ⟨?_, rfl⟩
  rw [ofI, if_neg hne, getI', List.getD_eq_getElem?_getD, List.getElem?_eq_getElem hlt]; rfl
theorem member_spec {p : Blocks} (s : Sl) (l : List Int) (x : Int) (h : Heap) (hs : Seq h p s 1 intv l) (hz : l.length ≤ 2 ^ 40) : Meets Try.prog wellspringkeep_Member_int_id #[.slice s.ptr s.len s.cap, .int .i64 x] h fun v h' => v = .bool (decide (x ∈ l)) ∧ h' = h := by
  have hl := hs.len
  refine wellspringkeep_Member_int_run s x ?_
  unfold wellspringkeep_Member_int_m
  refine loop_inv (fun k : Nat => (k : Int)) (fun k h' => h' = h ∧ k ≤ l.length ∧ x ∉ l.take k) (fun k => l.length - k) 0 rfl ⟨rfl, by omega, by simp⟩ ?_
  rintro k h' ⟨rfl, hk, hn⟩
  refine br_dec (fun e => ?_) (fun e => ?_)
  · have hk' : k < l.length := by omega
    refine hs.get1 k rfl hk' _ rfl ?_
    refine br_eq (fun e2 => ⟨by rw [decide_eq_true (by rw [← e2]; exact List.getElem_mem _)], rfl⟩) (fun e2 => ?_)
    refine ⟨k + 1, by rw [Go.Vc.wrap_small _ (by omega) (by omega)]; rfl, ⟨rfl, by omega, ?_⟩, by omega⟩
    rw [take_snoc _ _ hk', List.mem_append, List.mem_singleton]
    rintro (h1 | h1)
    · exact hn h1
    · exact e2 h1.symm
  · rw [List.take_of_length_le (by omega)] at hn
    exact ⟨by rw [decide_eq_false hn], rfl⟩
theorem wakes_spec (h : Heap) : Meets Try.prog wellspringlaw25_wakes_id #[] h fun v h' => v = .bool true ∧ Sp h h' [] := by
  refine wellspringlaw25_wakes_run ?_
  unfold wellspringlaw25_wakes_m
  refine (Sp.refl h).lit C_ok intv eInt rfl [1, 0] rfl (show 2 * 1 ≤ 2 ^ 20 by decide) rfl fun s h1 H1 => ?_
  refine (order_spec 0 0 s [1, 0] h1 (H1.seq 0 rfl (fun _ => rfl)) (by decide)).mono ?_
  rintro v h2 ⟨r, rfl, R2⟩
  rw [wake_order] at R2
  have H2 := H1.comp R2
  refine ⟨r, rfl, ?_⟩
  refine H2.lit C_ok intv eInt rfl [0, 1] rfl (show 2 * 1 ≤ 2 ^ 20 by decide) rfl fun t h3 H3 => ?_
  refine (same_int_spec r t _ _ h3 (H3.seq 1 rfl (fun _ => rfl)) (H3.seq 2 rfl (fun _ => rfl)) (by decide)).mono ?_
  rintro v h4 ⟨rfl, rfl⟩
  rw [decide_eq_true rfl]
  refine ⟨_, rfl, br_b (fun _ => ?_) (fun e => by cases e)⟩
  refine (of_spec ⟨none, 0, 0⟩ [] 3 h4 (Seq.nil _ _ _ _ _ _)).mono ?_
  rintro v h5 ⟨rfl, rfl⟩
  exact ⟨_, rfl, rfl, .zip H3.pres⟩
end Go.Proofs.Ytpbdnfgjjpgpoaa
