/- Part of the proofs that wellspringlaw14's laws answer true whatever the input reads, and leave it as it was; no condition. -/
import Derived.Test.YtkcplnfomahleaaGreatDoorTabS
import Derived.Test.YtkcplnfomahleaaGreatDoorHpA
import Derived.Test.YtkcplnfomahleaaGreatDoorKA
import Derived.Test.YtkcplnfomahleaaGreatDoorPlC
import Derived.Test.YtkcplnfomahleaaGreatDoorKP
set_option linter.unusedVariables false
set_option linter.unusedSimpArgs false
namespace Go.Proofs.YtkcplnfomahleaaGreatDoor
open Go Go.Vc Go.Proofs Wl
set_option maxRecDepth 100000
theorem trimRight_spec (s : Sl) (l : Row) (c : UInt8) (h : Heap) (hs : Rd h s 1 u8v l) (hc : s.len ≤ s.cap) (hl : l.length ≤ 2 ^ 30) :
    Meets Tryz.prog bytes_trimRightByte_id #[.slice s.ptr s.len s.cap, .int .u8 c.toNat] h fun v h' => ∃ k : Nat, v = .slice s.ptr k s.cap ∧ k ≤ l.length ∧ (∀ j (hj : j < l.length), k ≤ j → l[j] = c) ∧ (∀ (hk : k - 1 < l.length), 0 < k → l[k - 1] ≠ c) ∧ h' = h := by
  refine bytes_trimRightByte_run s _ ?_
  unfold bytes_trimRightByte_m
  have hsl := hs.len
  refine join_in ?_
  refine loop_inv (fun k : Nat => (⟨s.ptr, k, s.cap⟩ : Sl)) (fun k h' => h' = h ∧ k ≤ l.length ∧ ∀ j (hj : j < l.length), k ≤ j → l[j] = c) (fun k => k) l.length (by rw [← hsl]) ⟨rfl, Nat.le_refl _, fun j hj hk => by omega⟩ ?_
  rintro k h1 ⟨rfl, hk, hall⟩
  dsimp only
  refine join_in (br_dec (fun e => ?_) (fun e => ?_))
  · have hk0 : 0 < k := by omega
    rw [Go.Vc.wrap_small _ (by omega) (by omega)]
    refine (hs.take k hk).get1 (g := fun x : UInt8 => Value.int .u8 x.toNat) (k - 1) (by omega) (by simp; omega) (l[k - 1]'(by omega)) (by simp [u8v]) ?_ |> fun ⟨a, ha, x, hx, hK⟩ => ⟨a, ha, x.toNat, hx, hK⟩
    refine br_eq (fun e2 => ?_) (fun e2 => ?_)
    · have hck : l[k - 1]'(by omega) = c := by
        have : (l[k - 1]'(by omega)).toNat = c.toNat := by exact_mod_cast e2
        exact UInt8.toNat_inj.1 this
      refine ⟨⟨by omega, by omega⟩, k - 1, by congr 1; omega, ⟨rfl, by omega, fun j hj hkj => ?_⟩, by omega⟩
      by_cases hj2 : j = k - 1
      · subst hj2; exact hck
      · exact hall j hj (by omega)
    · refine ⟨k, rfl, hk, hall, fun _ _ hh => e2 (by rw [hh]), rfl⟩
  · exact ⟨k, rfl, hk, hall, fun _ h0 => by omega, rfl⟩
theorem trimLeft_spec (s : Sl) (l : Row) (c : UInt8) (h : Heap) (hs : Rd h s 1 u8v l) (hc : s.len ≤ s.cap) (hl : l.length ≤ 2 ^ 30) :
    Meets Tryz.prog bytes_trimLeftByte_id #[.slice s.ptr s.len s.cap, .int .u8 c.toNat] h fun v h' => (∃ r : Sl, v = .slice r.ptr r.len r.cap ∧ (r.len = 0 ↔ ∀ x ∈ l, x = c)) ∧ h' = h := by
  refine bytes_trimLeftByte_run s _ ?_
  unfold bytes_trimLeftByte_m
  have hsl := hs.len
  refine join_cut (fun r h' => h' = h ∧ (r.len = 0 ↔ ∀ x ∈ l, x = c)) ?_ ?_
  · refine loop_inv (fun t : Sl × Nat => t.1) (fun t h' => h' = h ∧ t.2 ≤ l.length ∧ (∀ j (hj : j < l.length), j < t.2 → l[j] = c) ∧ Rd h t.1 1 u8v (l.drop t.2) ∧ t.1.len ≤ t.1.cap) (fun t => l.length - t.2) (s, 0) rfl ⟨rfl, by simp, fun j _ hj => by omega, by simpa using hs, hc⟩ ?_
    rintro ⟨r, k⟩ h1 ⟨rfl, hk, hall, hr, hrc⟩
    dsimp only at *
    have hrl := hr.len
    rw [List.length_drop] at hrl
    refine join_in (br_dec (fun e => ?_) (fun e => ?_))
    · have hk' : k < l.length := by omega
      refine hr.get1 0 rfl (by rw [List.length_drop]; omega) _ rfl ?_
      have hd : (l.drop k)[0]'(by rw [List.length_drop]; omega) = l[k] := by simp
      rw [hd]
      refine br_eq (fun e2 => ?_) (fun e2 => ?_)
      · have hck : l[k] = c := by
          have : (l[k]).toNat = c.toNat := by exact_mod_cast e2
          exact UInt8.toNat_inj.1 this
        refine ⟨⟨by omega, by omega⟩, (⟨if r.cap = 1 then r.ptr else r.ptr.map (·.add (1 * 1)), r.len - 1, r.cap - 1⟩, k + 1), rfl, ⟨rfl, by omega, fun j hj hjk => ?_, ?_, by dsimp only; omega⟩, by dsimp only; omega⟩
        · rcases Nat.lt_succ_iff_lt_or_eq.1 hjk with h2 | rfl
          · exact hall j hj h2
          · exact hck
        · have := hr.drop 1 hrc
          rw [List.drop_drop] at this
          exact this
      · refine ⟨rfl, ⟨fun h0 => by omega, fun hh => absurd ?_ e2⟩⟩
        rw [hh _ (List.getElem_mem hk')]
    · have hkl : k = l.length := by omega
      refine ⟨rfl, ⟨fun _ x hx => ?_, fun _ => by show r.len = 0; omega⟩⟩
      obtain ⟨j, hj, rfl⟩ := List.getElem_of_mem hx
      exact hall j hj (by omega)
  · rintro r h1 ⟨rfl, hr⟩
    refine br_eq (fun e => ?_) (fun e => ?_)
    · exact ⟨⟨⟨none, 0, 0⟩, rfl, by rw [← hr]; exact ⟨fun _ => by omega, fun _ => rfl⟩⟩, rfl⟩
    · exact ⟨⟨r, rfl, hr⟩, rfl⟩
theorem trim_spec (s : Sl) (l : Row) (cut : ByteArray) (hcut : cut = ⟨#[0]⟩) (h : Heap) (hs : Rd h s 1 u8v l) (hc : s.len ≤ s.cap) (hl : l.length ≤ 2 ^ 30) :
    Meets Tryz.prog bytes_Trim_id #[.slice s.ptr s.len s.cap, .string cut] h fun v h' => (∃ r : Sl, v = .slice r.ptr r.len r.cap ∧ (r.len = 0 ↔ ∀ x ∈ l, x = 0)) ∧ h' = h := by
  subst hcut
  refine bytes_Trim_run s _ ?_
  unfold bytes_Trim_m
  have hsl := hs.len
  refine br_eq (fun e => ?_) (fun e => ?_)
  · refine ⟨⟨⟨none, 0, 0⟩, rfl, ⟨fun _ x hx => ?_, fun _ => rfl⟩⟩, rfl⟩
    have : l = [] := List.eq_nil_of_length_eq_zero (by omega)
    subst this; cases hx
  · refine br_f (by decide +kernel) (join_in (br_t (by decide +kernel) ?_))
    refine ⟨0, ⟨by decide, rfl⟩, br_t (by decide) ?_⟩
    refine ⟨0, ⟨by decide, rfl⟩, 0, ⟨by decide, rfl⟩, ?_⟩
    refine (trimRight_spec s l 0 h hs hc hl).mono ?_
    rintro v h1 ⟨k, rfl, hk, h2, h3, rfl⟩
    refine ⟨⟨s.ptr, k, s.cap⟩, rfl, trivial, ?_⟩
    refine (trimLeft_spec ⟨s.ptr, k, s.cap⟩ (l.take k) 0 h1 (hs.take k hk) (by show k ≤ s.cap; omega) (by simp; omega)).mono ?_
    rintro v h4 ⟨⟨r, rfl, hr⟩, rfl⟩
    refine ⟨r, rfl, trivial, ⟨r, rfl, hr.trans ⟨fun hh x hx => ?_, fun hh x hx => hh x (List.mem_of_mem_take hx)⟩⟩, rfl⟩
    obtain ⟨j, hj, rfl⟩ := List.getElem_of_mem hx
    by_cases hjk : j < k
    · exact hh _ (by rw [List.mem_take_iff_getElem]; exact ⟨j, by omega, rfl⟩)
    · exact h2 j hj (by omega)
end Go.Proofs.YtkcplnfomahleaaGreatDoor
namespace Go.Proofs.YtkcplnfomahleaaGreatDoor
open Go Go.Vc Go.Proofs Wl
set_option maxRecDepth 100000
def qv (x : Sl × Sl) : List Value := [.slice x.1.ptr x.1.len x.1.cap, .slice x.2.ptr x.2.len x.2.cap]
theorem one_qv : ∀ x, ∀ c ∈ qv x, c.oneCell' = true := fun x c hc => by
  simp only [qv, List.mem_cons, List.not_mem_nil, or_false] at hc
  rcases hc with rfl | rfl <;> rfl
def EltQ : Elt (Sl × Sl) EqL := ⟨fun h q a e => Seq h q a.1 1 intv e.1 ∧ Seq h q a.2 1 u8v e.2, fun a hp => ⟨a.1.pres hp, a.2.pres hp⟩, fun a hq => ⟨a.1.mono hq, a.2.mono hq⟩⟩
abbrev EltQs : Elt Sl (List EqL) := EltL EltQ 2 qv
abbrev EltNs : Elt Sl Mat := EltL (EltN 1 u8v) 1 slv
abbrev eQ : ElemOk C.toCfg T_sl_api_Eq T_api_Eq 2 [.slice none 0 0, .slice none 0 0] 48 := ⟨_, _, rfl, rfl, rfl, rfl, rfl, rfl⟩
abbrev eSlU8' : ElemOk C.toCfg T_sl_sl_uint8 T_sl_uint8 1 [.slice none 0 0] 24 := ⟨_, _, rfl, rfl, rfl, rfl, rfl, rfl⟩
abbrev eBool : ElemOk C.toCfg T_sl_bool T_bool 1 [.bool false] 1 := ⟨_, _, rfl, rfl, rfl, rfl, rfl, rfl⟩
theorem EltQs.get {h : Heap} {q : Blocks} {s : Sl} {L : List EqL} (x : EltQs.p h q s L) {i : Int} (n : Nat) (hi : i = n) (hn : n < L.length) {K : Sl × Sl → Prop} (hk : ∀ r, EltQ.p h q r L[n] → K r) :
    ∃ a : Addr, (s.ptr = some a ∧ 0 ≤ i ∧ i < ((s.len : Nat) : Int)) ∧ ∃ x : Sl × Sl, cellsAt h (a.add (i.toNat * 2)) 0 [.slice x.1.ptr x.1.len x.1.cap, .slice x.2.ptr x.2.len x.2.cap] ∧ K x := by
  obtain ⟨rs, h1, h2, h3⟩ := EltL.heads x
  exact h1.getk (g := qv) n hi (by omega) (rs[n]'(by omega)) rfl (hk _ (h3 n (by omega) hn))
structure PeelSt (h : Heap) (p : Addr) (l k v : Sl) (L : List EqL) (kn : List Bool) (vs : Mat) : Prop where
  box : Box h p T_peel_peeler [.slice l.ptr l.len l.cap, .slice k.ptr k.len k.cap, .slice v.ptr v.len v.cap]
  eqs : RdE EltQs h l L
  known : Rd h k 1 boolv kn
  vals : RdE EltNs h v vs
theorem PeelSt.up {h h' : Heap} {p : Addr} {l k v : Sl} {L : List EqL} {kn : List Bool} {vs : Mat} (x : PeelSt h p l k v L kn vs) (hp : Pres (fun b => b < h.size) h h') : PeelSt h' p l k v L kn vs :=
  ⟨x.box.pres hp x.box.lt, RdE.up x.eqs hp, Seq.up x.known hp, RdE.up x.vals hp⟩
theorem kn_get {kn : List Bool} {c : Int} (h0 : 0 ≤ c) (h1 : c.toNat < kn.length) : Wl.kn kn c = kn[c.toNat] := by
  unfold Wl.kn; rw [List.getD_eq_getElem?_getD, List.getElem?_eq_getElem h1]; rfl
theorem row_get {m : Mat} {i : Nat} (h : i < m.length) : rowB m i = m[i] := row_lt h
theorem filter_take {α : Type} (f : α → Bool) (l : List α) {k : Nat} (hk : k < l.length) : (l.take (k + 1)).filter f = (l.take k).filter f ++ if f l[k] then [l[k]] else [] := by
  rw [take_snoc _ _ hk, List.filter_append, List.filter_cons]
  cases f l[k] <;> rfl
theorem addC_snoc (V : Mat) (a : Row) (l : List Int) (c : Int) : addC V a (l ++ [c]) = addB 1 (rowB V c.toNat) (addC V a l) := by
  unfold addC; rw [List.foldl_append]; rfl
theorem add1_eq (a t : Row) : addB 1 a t = List.zipWith (fun x y => y ^^^ x) a t := by
  unfold addB; congr 1; funext x y; rw [Gf.one_mul]
theorem zip_half_set {a t : Row} (hat : a.length = t.length) {k : Nat} (hk : k < t.length) : (List.zipWith (fun x y => y ^^^ x) (a.take k) (t.take k) ++ t.drop k).set k (t[k] ^^^ (a[k]'(by omega))) = List.zipWith (fun x y => y ^^^ x) (a.take (k + 1)) (t.take (k + 1)) ++ t.drop (k + 1) := by
  have hl : (List.zipWith (fun x y => y ^^^ x) (a.take k) (t.take k)).length = k := by simp; omega
  rw [List.set_append_right _ _ (by omega), hl, Nat.sub_self, List.drop_eq_getElem_cons hk, List.set_cons_zero, take_snoc _ _ hk, take_snoc _ _ (show k < a.length by omega), List.zipWith_append (by simp; omega)]
  simp
theorem next_eq_spec (p : Addr) (l k v : Sl) (L : List EqL) (kn : List Bool) (vs : Mat) (n : Nat) (h : Heap) (hP : PeelSt h p l k v L kn vs) (hkn : kn.length = n) (hc : ∀ e ∈ L, ∀ c ∈ e.1, 0 ≤ c ∧ c < (n : Int)) (hL : L.length ≤ 2 ^ 30) (hcl : ∀ e ∈ L, e.1.length ≤ 2 ^ 30) :
    Meets Tryz.prog peel_peeler_next_id #[.pointer (some p)] h fun v h' => (∃ i : Int, v = .int .i64 i ∧ (0 ≤ i → ∃ (hi : i.toNat < L.length), ((L[i.toNat]).1.filter fun c => !Wl.kn kn c).length = 1)) ∧ Sp h h' [] := by
  refine peel_peeler_next_run (some p) ?_
  unfold peel_peeler_next_m
  have hll := EltL.len hP.eqs
  refine ⟨p, rfl, l, hP.box.cell0 rfl, ?_⟩
  refine loop_inv (fun i : Nat => (i : Int)) (fun i h' => i ≤ L.length ∧ Sp h h' []) (fun i => L.length - i) 0 rfl ⟨by omega, Sp.refl h⟩ ?_
  rintro i h1 ⟨hi, H1⟩
  refine br_dec (fun e => ?_) (fun e => ⟨⟨-1, rfl, fun hh => by omega⟩, H1⟩)
  have hi' : i < L.length := by omega
  refine EltQs.get (RdE.up hP.eqs H1.pres) i rfl hi' fun x hx => ?_
  refine (Sp.refl h1).alloc C_ok rfl fun a h2 H2 => ?_
  refine H2.storeAll C_ok 0 rfl rfl (qv x) rfl rfl rfl rfl fun h3 H3 => ?_
  have P3 := up H1.pres H3.pres
  have hP3 := hP.up P3
  have hx3 := EltQ.mono (EltQ.loc hx H3.pres) fun b hb => Nat.lt_of_lt_of_le hb H3.pres.1
  have hb3 := H3.box 0 rfl
  refine ⟨x.1, hb3.cell0 rfl, ?_⟩
  have hxl := hx3.1.len
  have hcli := hcl _ (List.getElem_mem hi')
  let cnt : Nat → Nat := fun j => (((L[i]).1.take j).filter fun c => !Wl.kn kn c).length
  refine loop_inv (fun j : Nat => (((cnt j : Nat) : Int), (j : Int))) (fun j h' => h' = h3 ∧ j ≤ (L[i]).1.length) (fun j => (L[i]).1.length - j) 0 (by simp [cnt]) ⟨rfl, by omega⟩ ?_
  rintro j h4 ⟨rfl, hj⟩
  dsimp only
  have hfl : cnt j ≤ j := Nat.le_trans (List.length_filter_le _ _) (by simp; omega)
  refine br_dec (fun e2 => ?_) (fun e2 => ?_)
  · have hj' : j < (L[i]).1.length := by omega
    have hcc := hc _ (List.getElem_mem hi') _ (List.getElem_mem hj')
    refine hx3.1.get1 j rfl hj' _ rfl ?_
    refine ⟨p, rfl, k, hP3.box.cell rfl, ?_⟩
    refine hP3.known.get1 (L[i]).1[j].toNat (by omega) (by omega) _ rfl ?_
    rw [Go.Vc.wrap_small ((j : Int) + 1) (by omega) (by omega), Go.Vc.wrap_small _ (by omega) (by omega)]
    have hkg := kn_get (kn := kn) hcc.1 (by omega)
    refine br_not (fun e3 => ?_) (fun e3 => ?_)
    · refine ⟨j + 1, ?_, ⟨rfl, by omega⟩, by omega⟩
      have : cnt (j + 1) = cnt j + 1 := by simp only [cnt]; rw [filter_take _ _ hj', hkg, e3]; simp
      rw [this]; rfl
    · refine ⟨j + 1, ?_, ⟨rfl, by omega⟩, by omega⟩
      have : cnt (j + 1) = cnt j := by simp only [cnt]; rw [filter_take _ _ hj', hkg, e3]; simp
      rw [this]; rfl
  · have hje : j = (L[i]).1.length := by omega
    subst hje
    have hcnt : cnt (L[i]).1.length = ((L[i]).1.filter fun c => !Wl.kn kn c).length := by simp only [cnt]; rw [List.take_length]
    rw [hcnt]
    refine br_eq (fun e3 => ⟨⟨i, rfl, fun _ => ⟨by omega, by exact_mod_cast e3⟩⟩, .zip P3⟩) (fun e3 => ?_)
    exact ⟨i + 1, by rw [Go.Vc.wrap_small _ (by omega) (by omega)]; rfl, ⟨by omega, .zip P3⟩, by omega⟩
theorem left_spec (p : Addr) (l k v : Sl) (L : List EqL) (kn : List Bool) (vs : Mat) (n w : Nat) (x : Sl × Sl) (e : EqL) (h : Heap) (hP : PeelSt h p l k v L kn vs) (hI : PInv n w L kn vs) (hx : RdE EltQ h x e) (he : EqOk n w e) (hw : w ≤ 2 ^ 20) (hel : e.1.length ≤ 2 ^ 20) :
    Meets Tryz.prog peel_peeler_left_id #[.pointer (some p), .agg #[.slice x.1.ptr x.1.len x.1.cap, .slice x.2.ptr x.2.len x.2.cap]] h fun r h' => ∃ a b : Sl, r = .agg #[.slice a.ptr a.len a.cap, .slice b.ptr b.len b.cap] ∧ Sp h h' [OwnA T_int a 1 intv (leftB kn vs e).1, OwnA T_uint8 b 1 u8v (leftB kn vs e).2] := by
  refine peel_peeler_left_run (some p) x ?_
  unfold peel_peeler_left_m
  refine (Sp.refl h).boxed fun a1 h1 H1 => ?_
  refine H1.alloc C_ok rfl fun a2 h2 H2 => ?_
  have P2 := H2.pres
  refine ⟨x.2, (H2.box 0 rfl).cell rfl, (cloneB_spec x.2 e.2 h2 (Seq.up hx.2 P2) (by have := he.len; omega)).mono ?_⟩
  rintro vv h3 ⟨d, rfl, R3⟩
  have H3 := H2.comp R3
  refine ⟨d, rfl, H3.alloc C_ok rfl fun a5 h4 H4 => ?_⟩
  refine H4.storeAll C_ok 3 rfl rfl (qv (⟨none, 0, 0⟩, d)) rfl rfl rfl rfl fun h5 H5 => ?_
  have H6 : Sp h h5 [BoxA a1 T_api_Eq (qv x), BoxA a2 T_api_Eq [.slice none 0 0, .slice none 0 0], OwnA T_uint8 d 1 u8v e.2, BoxA a5 T_api_Eq (qv (⟨none, 0, 0⟩, d)), OwnA T_int ⟨none, 0, 0⟩ 1 intv []] := H5.nil T_int 1 intv
  refine ⟨x.1, (H6.box 0 rfl).cell0 rfl, ?_⟩
  have hxl := hx.1.len
  have hkl := hI.klen; have hvl := hI.vlen
  refine loop_inv (fun t : Nat × Sl => (t.1 : Int)) (fun t h' => t.1 ≤ e.1.length ∧ Sp h h' [BoxA a1 T_api_Eq (qv x), BoxA a2 T_api_Eq [.slice none 0 0, .slice none 0 0], OwnA T_uint8 d 1 u8v (addC vs e.2 ((e.1.take t.1).filter fun c => Wl.kn kn c)), BoxA a5 T_api_Eq (qv (t.2, d)), OwnA T_int t.2 1 intv ((e.1.take t.1).filter fun c => !Wl.kn kn c)]) (fun t => e.1.length - t.1) (0, ⟨none, 0, 0⟩) rfl ⟨by simp, by simpa [addC] using H6⟩ ?_
  rintro ⟨j, o⟩ h7 ⟨hj, H7⟩
  dsimp only at *
  have hlenD : (addC vs e.2 ((e.1.take j).filter fun c => Wl.kn kn c)).length = w := addC_len he.len fun c hc => by
    have hc' := List.mem_filter.1 hc
    have hc1 := List.mem_of_mem_take hc'.1
    exact hI.rowLen (he.cols c hc1).1 (he.cols c hc1).2 hc'.2
  have hfl : ((e.1.take j).filter fun c => !Wl.kn kn c).length ≤ j := Nat.le_trans (List.length_filter_le _ _) (by simp; omega)
  refine br_dec (fun e2 => ?_) (fun e2 => ?_)
  · have hj' : j < e.1.length := by omega
    have hcc := he.cols _ (List.getElem_mem hj')
    have hP7 := hP.up H7.pres
    refine (Seq.up hx.1 H7.pres).get1 j rfl hj' _ rfl ?_
    refine ⟨p, rfl, k, hP7.box.cell rfl, ?_⟩
    refine hP7.known.get1 (e.1[j]).toNat (by omega) (by omega) _ rfl ?_
    have hkg := kn_get (kn := kn) hcc.1 (by omega)
    refine br_not (fun e3 => ?_) (fun e3 => ?_)
    · rw [← hkg] at e3
      refine ⟨o, (H7.box 3 rfl).cell0 rfl, ?_⟩
      refine H7.push C_ok 4 rfl eInt rfl (by decide) (fun _ => rfl) one_int e.1[j] rfl (by decide) (by omega) fun o' h8 H8 => ?_
      refine H8.store0 C_ok 3 rfl rfl [.slice o'.ptr o'.len o'.cap] rfl rfl rfl (by simp [qv]) fun h9 H9 => ?_
      refine ⟨(j + 1, o'), by dsimp only; rw [Go.Vc.wrap_small _ (by omega) (by omega)]; rfl, ⟨by dsimp only; omega, ?_⟩, by dsimp only; omega⟩
      dsimp only
      rw [filter_take _ _ hj', filter_take _ _ hj', e3]
      simp only [Bool.not_false, if_true, Bool.false_eq_true, if_false, List.append_nil]
      exact H9
    · rw [← hkg] at e3
      have hrl := hI.rowLen hcc.1 hcc.2 e3
      rw [row_get (by omega)] at hrl
      refine ⟨p, rfl, v, hP7.box.cell rfl, ?_⟩
      obtain ⟨vr, hvr, hvn, hve⟩ := EltL.heads hP.vals
      have hrl' : (e.1[j]).toNat < vs.length := by omega
      refine (Seq.up hvr H7.pres).getH (e.1[j]).toNat (by omega) (by omega) ?_
      have hy := (hve (e.1[j]).toNat (by omega) hrl').1
      have hyl := hy.len
      generalize vr[(e.1[j]).toNat]'(by omega) = y at hy hyl ⊢
      obtain ⟨A, hA⟩ : ∃ A, A = vs[(e.1[j]).toNat]'hrl' := ⟨_, rfl⟩
      obtain ⟨D, hD⟩ : ∃ D, D = addC vs e.2 ((e.1.take j).filter fun c => Wl.kn kn c) := ⟨_, rfl⟩
      rw [← hA] at hrl hy hyl
      rw [← hD] at H7 hlenD
      refine loop_inv (fun m : Nat => (m : Int)) (fun m h' => m ≤ w ∧ Sp h h' [BoxA a1 T_api_Eq (qv x), BoxA a2 T_api_Eq [.slice none 0 0, .slice none 0 0], OwnA T_uint8 d 1 u8v (List.zipWith (fun x y => y ^^^ x) (A.take m) (D.take m) ++ D.drop m), BoxA a5 T_api_Eq (qv (o, d)), OwnA T_int o 1 intv ((e.1.take j).filter fun c => !Wl.kn kn c)]) (fun m => w - m) 0 rfl ⟨by omega, by simpa using H7⟩ ?_
      rintro m h8 ⟨hm, H8⟩
      have hzl : (List.zipWith (fun x y => y ^^^ x) (A.take m) (D.take m)).length = m := by simp; omega
      refine br_dec (fun e4 => ?_) (fun e4 => ?_)
      · have hm' : m < w := by omega
        refine (Seq.up hy H8.pres).get1 m rfl (by omega) _ rfl ?_
        refine ⟨d, (H8.box 3 rfl).cell rfl, ?_⟩
        refine (H8.seq 2 rfl (fun _ => rfl)).get1 m rfl (by simp; omega) _ rfl ?_
        have hgd : ((List.zipWith (fun x y => y ^^^ x) (A.take m) (D.take m) ++ D.drop m)[m]'(by simp; omega)) = D[m]'(by omega) := by
          rw [List.getElem_append_right (by omega)]; simp [hzl]
        rw [hgd, xor_u8]
        refine H8.set C_ok 2 rfl (fun _ => rfl) rfl m rfl (by simp; omega) (D[m]'(by omega) ^^^ A[m]'(by omega)) rfl rfl rfl fun h9 H9 => ?_
        rw [zip_half_set (by omega) (by omega)] at H9
        exact ⟨m + 1, by rw [Go.Vc.wrap_small _ (by omega) (by omega)]; rfl, ⟨by omega, H9⟩, by omega⟩
      · have hmw : m = w := by omega
        subst hmw
        refine ⟨(j + 1, o), by dsimp only; rw [Go.Vc.wrap_small _ (by omega) (by omega)]; rfl, ⟨by dsimp only; omega, ?_⟩, by dsimp only; omega⟩
        dsimp only
        rw [filter_take _ _ hj', filter_take _ _ hj', e3]
        simp only [Bool.not_true, if_true, Bool.false_eq_true, if_false, List.append_nil]
        rw [addC_snoc, row_get hrl', ← hA, ← hD, add1_eq]
        rw [List.take_of_length_le (by omega), List.take_of_length_le (by omega), List.drop_of_length_le (by omega), List.append_nil] at H8
        exact H8
  · have hje : j = e.1.length := by omega
    subst hje
    rw [List.take_length] at H7
    refine ⟨(o, d), (H7.box 3 rfl).cells0 _ rfl, ?_⟩
    refine H7.storeAll C_ok 1 rfl rfl (qv (o, d)) rfl rfl rfl rfl fun h8 H8 => ?_
    refine ⟨(o, d), (H8.box 1 rfl).cells0 _ rfl, o, d, rfl, ?_⟩
    exact H8.sel [4, 2]
end Go.Proofs.YtkcplnfomahleaaGreatDoor
namespace Go.Proofs.YtkcplnfomahleaaGreatDoor
open Go Go.Vc Go.Proofs Wl
set_option maxRecDepth 100000
theorem SpB.ownN {B : Blocks} {h0 h : Heap} {As : List HP} {e k : Nat} {α : Type} {f : α → List Value} {s : Sl} {l : List α} (H : SpB B h0 h As) (i : Nat) (hi : As[i]? = some (OwnA e s k f l)) (hw : ∀ x, (f x).length = k) (hl : l ≠ []) : SpB B h0 h (As.set i (EA (EltN k f) s l)) :=
  H.weak i hi fun q ⟨a, b⟩ => ⟨a.seq hw b, fun hh => absurd hh hl⟩
theorem count_set {l : List Bool} : ∀ {i : Nat} (h : i < l.length), l[i] = false → ((l.set i true).count false) + 1 = l.count false := by
  induction l with
  | nil => intro i h; simp at h
  | cons a l ih =>
    intro i h h1
    cases i with
    | zero => simp at h1; subst h1; simp
    | succ i =>
      have := ih (i := i) (by simpa using h) (by simpa using h1)
      rw [List.set_cons_succ, List.count_cons, List.count_cons]; omega
theorem all_spec (p : Addr) (l k v : Sl) (L : List EqL) (n w : Nat) (h0 h : Heap) (hE : RdE EltQs h0 l L) (hL : ∀ e ∈ L, EqOk n w e) (hn : n ≤ 64) (hLl : L.length ≤ 2 ^ 20) (hw : 1 ≤ w ∧ w ≤ 2 ^ 20) (hcl : ∀ e ∈ L, e.1.length ≤ 2 ^ 20)
    (H : Sp h0 h [BoxA p T_peel_peeler [.slice l.ptr l.len l.cap, .slice k.ptr k.len k.cap, .slice v.ptr v.len v.cap], OwnA T_bool k 1 boolv (List.replicate n false), RowsE T_sl_uint8 v 1 slv (EltN 1 u8v) (List.replicate n [])]) :
    Meets Tryz.prog peel_peeler_all_id #[.pointer (some p)] h fun r h' => r = .tuple #[] ∧ ∃ kn vs, PInv n w L kn vs ∧ Sp h0 h' [BoxA p T_peel_peeler [.slice l.ptr l.len l.cap, .slice k.ptr k.len k.cap, .slice v.ptr v.len v.cap], OwnA T_bool k 1 boolv kn, RowsE T_sl_uint8 v 1 slv (EltN 1 u8v) vs] := by
  refine peel_peeler_all_run (some p) ?_
  unfold peel_peeler_all_m
  refine loop_inv (fun _ : List Bool × Mat => ()) (fun t h' => PInv n w L t.1 t.2 ∧ Sp h0 h' [BoxA p T_peel_peeler [.slice l.ptr l.len l.cap, .slice k.ptr k.len k.cap, .slice v.ptr v.len v.cap], OwnA T_bool k 1 boolv t.1, RowsE T_sl_uint8 v 1 slv (EltN 1 u8v) t.2]) (fun t => t.1.count false) (List.replicate n false, List.replicate n []) rfl ⟨pinv_start n w L, H⟩ ?_
  rintro ⟨kn, vs⟩ h1 ⟨hI, H1⟩
  dsimp only at *
  have hkl := hI.klen; have hvl := hI.vlen
  have mk : ∀ {h2}, Sp h0 h2 [BoxA p T_peel_peeler [.slice l.ptr l.len l.cap, .slice k.ptr k.len k.cap, .slice v.ptr v.len v.cap], OwnA T_bool k 1 boolv kn, RowsE T_sl_uint8 v 1 slv (EltN 1 u8v) vs] → PeelSt h2 p l k v L kn vs := fun H2 =>
    ⟨H2.box 0 rfl, RdE.up hE H2.pres, H2.seq 1 rfl fun _ => rfl, H2.eRd 2 rfl fun _ => rfl⟩
  refine (next_eq_spec p l k v L kn vs n h1 (mk H1) hkl (fun e he => (hL e he).cols) (by omega) (fun e he => by have := hcl e he; omega)).mono ?_
  rintro _ h2 ⟨⟨i, rfl, hi⟩, R2⟩
  refine ⟨i, rfl, ?_⟩
  have H2 := H1.up R2.pres
  refine br_dec (fun e => ⟨rfl, kn, vs, hI, H2⟩) (fun e => ?_)
  have hi0 : 0 ≤ i := Int.not_lt.1 e
  obtain ⟨hil, hone⟩ := hi hi0
  have hP2 := mk H2
  refine ⟨p, rfl, l, hP2.box.cell0 rfl, ?_⟩
  refine EltQs.get hP2.eqs i.toNat (by omega) hil fun x hx => ?_
  have heL := List.getElem_mem hil
  refine (left_spec p l k v L kn vs n w x L[i.toNat] h2 hP2 hI hx (hL _ heL) hw.2 (hcl _ heL)).mono ?_
  rintro _ h3 ⟨a, b, rfl, R3⟩
  refine ⟨(a, b), rfl, ?_⟩
  obtain ⟨c, hc⟩ : ∃ c, (leftB kn vs L[i.toNat]).1 = [c] := by
    have h1 : (leftB kn vs L[i.toNat]).1.length = 1 := hone
    match h2 : (leftB kn vs L[i.toNat]).1, h1 with
    | [c], _ => exact ⟨c, rfl⟩
  have hok := hI.leftOk (hL _ heL)
  have hcc := hok.cols c (by rw [hc]; simp)
  have hkn : Wl.kn kn c = false := leftAgain hI L[i.toNat] c (by rw [hc]; simp)
  rw [kn_get hcc.1 (by omega)] at hkn
  have H3 := H2.comp R3
  rw [hc] at H3
  refine H3.alloc C_ok rfl fun a8 h4 H4 => ?_
  refine H4.storeAll C_ok 5 rfl rfl (qv (a, b)) rfl rfl rfl rfl fun h5 H5 => ?_
  refine ⟨p, rfl, k, (H5.box 0 rfl).cell rfl, a, (H5.box 5 rfl).cell0 rfl, ?_⟩
  have hsa := H5.seq 3 rfl fun _ => rfl
  refine hsa.get1 0 rfl (by simp) c rfl ?_
  refine ⟨p, rfl, v, (H5.box 0 rfl).cell rfl, a, (H5.box 5 rfl).cell0 rfl, ?_⟩
  refine hsa.get1 0 rfl (by simp) c rfl ?_
  refine ⟨b, (H5.box 5 rfl).cell rfl, ?_⟩
  refine H5.set C_ok 1 rfl (fun _ => rfl) rfl c.toNat (by omega) (by omega) true rfl rfl rfl fun h6 H6 => ?_
  refine ⟨⟨(H6.box 5 rfl).cell rfl, (H6.box 5 rfl).cell0 rfl, trivial⟩, ?_⟩
  have hbl : (leftB kn vs L[i.toNat]).2 ≠ [] := fun hh => by have := hok.len; rw [hh] at this; simp at this; omega
  have H7 := SpB.ownN H6 4 rfl (fun _ => rfl) hbl
  refine H7.eSet C_ok 2 4 (by decide) rfl rfl (fun _ => rfl) rfl c.toNat (by omega) (by omega) rfl rfl rfl fun h8 H8 => ⟨trivial, ?_⟩
  refine ⟨(kn.set c.toNat true, vs.set c.toNat (leftB kn vs L[i.toNat]).2), rfl, ⟨pinv_step hI hL heL hc, H8.sel [0, 1, 2]⟩, ?_⟩
  have := count_set (l := kn) (i := c.toNat) (by omega) hkn
  dsimp only; omega
theorem nought_spec (s : Sl) (l : Row) (h : Heap) (hs : Rd h s 1 u8v l) (hc : s.len ≤ s.cap) (hl : l.length ≤ 2 ^ 30) :
    Meets Tryz.prog peel_nought_id #[.slice s.ptr s.len s.cap] h fun v h' => v = .bool (!(l.any (· != 0))) ∧ h' = h := by
  refine peel_nought_run s ?_
  unfold peel_nought_m
  refine (trim_spec s l _ rfl h hs hc hl).mono ?_
  rintro _ h1 ⟨⟨r, rfl, hr⟩, rfl⟩
  refine ⟨r, rfl, ?_, rfl⟩
  congr 1
  rw [Bool.eq_iff_iff]
  simp only [beq_iff_eq, Bool.not_eq_true', List.any_eq_false, bne_iff_ne, ne_eq, Decidable.not_not]
  rw [← hr]; omega
def risesAt (l : List Int) : Prop := ∀ i (h : i + 1 < l.length), l[i] < l[i + 1]
theorem right_eq_spec (n : Nat) (l : Sl) (L : List EqL) (w : Nat) (h : Heap) (hE : RdE EltQs h l L) (hL : ∀ e ∈ L, EqOk n w e ∧ risesAt e.1) (hn : n ≤ 64) (hLl : L.length ≤ 2 ^ 20) (hcl : ∀ e ∈ L, e.1.length ≤ 2 ^ 20) :
    Meets Tryz.prog peel_right_id #[.int .i64 n, .slice l.ptr l.len l.cap] h fun v h' => v = .bool true ∧ Sp h h' [] := by
  refine peel_right_run _ l ?_
  unfold peel_right_m
  have hll := EltL.len hE
  refine join_in (br_dec (fun e => by omega) fun _ => br_dec (fun e => by omega) fun _ => ?_)
  refine loop_inv (fun i : Nat => (i : Int)) (fun i h' => i ≤ L.length ∧ Sp h h' []) (fun i => L.length - i) 0 rfl ⟨by omega, Sp.refl h⟩ ?_
  rintro i h1 ⟨hi, H1⟩
  refine br_dec (fun e => ?_) (fun e => ⟨rfl, H1⟩)
  have hi' : i < L.length := by omega
  refine EltQs.get (RdE.up hE H1.pres) i rfl hi' fun x hx => ?_
  refine (Sp.refl h1).alloc C_ok rfl fun a h2 H2 => ?_
  refine H2.storeAll C_ok 0 rfl rfl (qv x) rfl rfl rfl rfl fun h3 H3 => ?_
  have P3 := up H1.pres H3.pres
  have hx3 := EltQ.mono (EltQ.loc hx H3.pres) fun b hb => Nat.lt_of_lt_of_le hb H3.pres.1
  have hb3 := H3.box 0 rfl
  refine ⟨x.1, hb3.cell0 rfl, ?_⟩
  have hxl := hx3.1.len
  have hcli := hcl _ (List.getElem_mem hi')
  obtain ⟨hok, hri⟩ := hL _ (List.getElem_mem hi')
  refine loop_inv (fun j : Nat => (j : Int)) (fun j h' => h' = h3 ∧ j ≤ (L[i]).1.length) (fun j => (L[i]).1.length - j) 0 rfl ⟨rfl, by omega⟩ ?_
  rintro j h4 ⟨rfl, hj⟩
  refine br_dec (fun e2 => ?_) (fun e2 => ?_)
  · have hj' : j < (L[i]).1.length := by omega
    have hcc := hok.cols _ (List.getElem_mem hj')
    refine hx3.1.get1 j rfl hj' _ rfl ?_
    refine br_dec (fun e => by omega) fun _ => br_dec (fun e => by omega) fun _ => ?_
    have nx : ∃ j' : Nat, IntKind.wrap .i64 ((j : Int) + 1) = (j' : Int) ∧ (h4 = h4 ∧ j' ≤ (L[i]).1.length) ∧ (L[i]).1.length - j' < (L[i]).1.length - j := ⟨j + 1, by rw [Go.Vc.wrap_small _ (by omega) (by omega)]; rfl, ⟨rfl, by omega⟩, by omega⟩
    refine br_dec (fun e3 => ?_) (fun e3 => nx)
    refine ⟨x.1, hb3.cell0 rfl, ?_⟩
    rw [Go.Vc.wrap_small ((j : Int) - 1) (by omega) (by omega)]
    refine hx3.1.get1 (j - 1) (by omega) (by omega) _ rfl ?_
    have h5 := hri (j - 1) (by omega)
    have h6 : (L[i]).1[j - 1 + 1]'(by omega) = (L[i]).1[j] := by congr 1; omega
    rw [h6] at h5
    exact br_dec (fun e => absurd h5 (by omega)) fun _ => nx
  · refine ⟨x.2, hb3.cell rfl, ?_⟩
    obtain ⟨rs, h7, h8, h9⟩ := EltL.heads (RdE.up hE P3)
    have h10 := (h9 0 (by omega) (by omega)).2.len
    obtain ⟨a14, ha, y, hy, hK⟩ := h7.getk (g := qv) (i := (0 : Int)) 0 rfl (by omega) (rs[0]'(by omega)) rfl (K := fun y => y.2.len = w) (by rw [h10]; exact (hL _ (List.getElem_mem (show 0 < L.length by omega))).1.len)
    refine ⟨a14, ha, y.2, ?_, ?_⟩
    · exact hy.2.1
    have hx2 := hx3.2.len
    rw [hok.len] at hx2
    refine br_ne (fun e => absurd (by rw [hx2, hK]) e) fun _ => ?_
    exact ⟨i + 1, by rw [Go.Vc.wrap_small _ (by omega) (by omega)]; rfl, ⟨by omega, .zip P3⟩, by omega⟩
end Go.Proofs.YtkcplnfomahleaaGreatDoor
namespace Go.Proofs.YtkcplnfomahleaaGreatDoor
open Go Go.Vc Go.Proofs Wl
set_option maxRecDepth 100000
theorem SpB.ofEach {B : Blocks} {h0 h : Heap} {As : List HP} {e k : Nat} {α β : Type} {E : Elt α β} {f : α → List Value} {s : Sl} {n : Nat} {a : α} {b : β} (H : SpB B h0 h As) (i : Nat) (hi : As[i]? = some (OwnA e s k f (List.replicate n a))) (hp : ∀ h, E.p h (fun _ => False) a b) : SpB B h0 h (As.set i (RowsE e s k f E (List.replicate n b))) :=
  H.weak i hi fun q ⟨x, y⟩ => ⟨_, fun _ => False, x, fun c hc => ⟨y c hc, fun h => h⟩, fun _ h => h.elim, by simp, fun j r l h1 h2 => by
    rw [List.getElem?_replicate] at h1 h2
    split at h1
    · rename_i hj; rw [if_pos hj] at h2; cases h1; cases h2; exact hp h
    · cases h1⟩
theorem SpB.ownQ {B : Blocks} {h0 h : Heap} {As : List HP} {e e2 : Nat} {a b : Sl} {l : List Int} {r : Row} (H : SpB B h0 h As) (i j : Nat) (hij : i ≠ j) (hi : As[i]? = some (OwnA e a 1 intv l)) (hj : As[j]? = some (OwnA e2 b 1 u8v r)) : SpB B h0 h ((As.set i (EA EltQ (a, b) (l, r))).set j emp) :=
  H.merge i j hij hi hj fun q1 q2 _ hA hB => ⟨hA.1.seq (fun _ => rfl) fun x hx => .inl (hA.2 x hx), hB.1.seq (fun _ => rfl) fun x hx => .inr (hB.2 x hx)⟩
theorem rest_snoc (kn : List Bool) (vs : Mat) (L : List EqL) {i : Nat} (hi : i < L.length) : restB' kn vs (L.take (i + 1)) = if (leftB kn vs L[i]).1.isEmpty then restB' kn vs (L.take i) else restB' kn vs (L.take i) ++ [leftB kn vs L[i]] := by
  unfold restB'
  rw [take_snoc _ _ hi, List.map_append, List.filter_append]
  cases h : (leftB kn vs L[i]).1.isEmpty <;> simp [h]
theorem clash_snoc (kn : List Bool) (vs : Mat) (L : List EqL) {i : Nat} (hi : i < L.length) : clashB kn vs (L.take (i + 1)) = (clashB kn vs (L.take i) || ((leftB kn vs L[i]).1.isEmpty && (leftB kn vs L[i]).2.any (· != 0))) := by
  unfold clashB
  rw [take_snoc _ _ hi, List.map_append, List.any_append]; simp
theorem clash_take {kn : List Bool} {vs : Mat} {L : List EqL} {i : Nat} (h : clashB kn vs (L.take i) = true) : clashB kn vs L = true := by
  rw [← List.take_append_drop i L]
  unfold clashB at *
  rw [List.map_append, List.any_append, h]; rfl
theorem peel_spec (l : Sl) (L : List EqL) (n w : Nat) (h : Heap) (hE : RdE EltQs h l L) (hL : ∀ e ∈ L, EqOk n w e ∧ risesAt e.1) (hn : n ≤ 64) (hLl : L.length ≤ 2 ^ 20) (hw : 1 ≤ w ∧ w ≤ 2 ^ 20) (hcl : ∀ e ∈ L, e.1.length ≤ 2 ^ 20) :
    Meets Tryz.prog peel_Peel_id #[.int .i64 n, .slice l.ptr l.len l.cap] h fun r h' => ∃ kn vs, PInv n w L kn vs ∧ ((clashB kn vs L = true ∧ r = .tuple #[.slice none 0 0, .slice none 0 0, .slice none 0 0, .int .i64 10] ∧ Sp h h' []) ∨
      (clashB kn vs L = false ∧ ∃ k v s : Sl, r = .tuple #[.slice k.ptr k.len k.cap, .slice v.ptr v.len v.cap, .slice s.ptr s.len s.cap, .int .i64 0] ∧ Sp h h' [OwnA T_bool k 1 boolv kn, RowsE T_sl_uint8 v 1 slv (EltN 1 u8v) vs, RowsE T_api_Eq s 2 qv EltQ (restB' kn vs L)])) := by
  refine peel_Peel_run _ l ?_
  unfold peel_Peel_m
  have hll := EltL.len hE
  refine (right_eq_spec n l L w h hE hL hn hLl hcl).mono ?_
  rintro _ h1 ⟨rfl, R1⟩
  refine ⟨true, rfl, br_not (fun e => by cases e) fun _ => ?_⟩
  refine join_cut (fun s h' => ∃ (p : Addr) (k v : Sl), s = some p ∧ Sp h h' [BoxA p T_peel_peeler [.slice l.ptr l.len l.cap, .slice k.ptr k.len k.cap, .slice v.ptr v.len v.cap], OwnA T_bool k 1 boolv (List.replicate n false), RowsE T_sl_uint8 v 1 slv (EltN 1 u8v) (List.replicate n [])]) ⟨?_, ?_⟩ ?_
  · refine R1.make C_ok boolv eBool (by decide) false rfl rfl n n rfl rfl (Nat.le_refl _) (by omega) fun k h2 hkl hkc H2 => ⟨trivial, ?_⟩
    refine H2.make C_ok slv eSlU8' (by decide) ⟨none, 0, 0⟩ rfl rfl n n rfl rfl (Nat.le_refl _) (by omega) fun v h3 hvl hvc H3 => ⟨trivial, ?_⟩
    refine H3.boxed fun p h4 H4 => ⟨trivial, p, k, v, rfl, ?_⟩
    exact (SpB.ofEach (E := EltN 1 u8v) (b := []) H4 1 rfl fun h => ⟨Seq.nil _ _ _ _ _ _, fun _ => rfl⟩).sel [2, 0, 1]
  · refine R1.make C_ok slv eSlU8' (by decide) ⟨none, 0, 0⟩ rfl rfl n n rfl rfl (Nat.le_refl _) (by omega) fun v h3 hvl hvc H3 => ⟨trivial, ?_⟩
    refine H3.make C_ok boolv eBool (by decide) false rfl rfl n n rfl rfl (Nat.le_refl _) (by omega) fun k h2 hkl hkc H2 => ⟨trivial, ?_⟩
    refine H2.boxed fun p h4 H4 => ⟨trivial, p, k, v, rfl, ?_⟩
    exact (SpB.ofEach (E := EltN 1 u8v) (b := []) H4 0 rfl fun h => ⟨Seq.nil _ _ _ _ _ _, fun _ => rfl⟩).sel [2, 1, 0]
  rintro s h4 ⟨p, k, v, rfl, H4⟩
  refine (all_spec p l k v L n w h h4 hE (fun e he => (hL e he).1) hn hLl hw hcl H4).mono ?_
  rintro _ h5 ⟨rfl, kn, vs, hI, H5⟩
  refine ⟨(), rfl, ?_⟩
  refine loop_inv (fun t : Nat × Sl => (t.2, (t.1 : Int))) (fun t h' => t.1 ≤ L.length ∧ clashB kn vs (L.take t.1) = false ∧ Sp h h' [BoxA p T_peel_peeler [.slice l.ptr l.len l.cap, .slice k.ptr k.len k.cap, .slice v.ptr v.len v.cap], OwnA T_bool k 1 boolv kn, RowsE T_sl_uint8 v 1 slv (EltN 1 u8v) vs, RowsE T_api_Eq t.2 2 qv EltQ (restB' kn vs (L.take t.1))]) (fun t => L.length - t.1) (0, ⟨none, 0, 0⟩) rfl ⟨by simp, rfl, H5.eNil T_api_Eq 2 qv EltQ⟩ ?_
  rintro ⟨i, o⟩ h6 ⟨hi, hnc, H6⟩
  dsimp only at *
  refine br_dec (fun e => ?_) (fun e => ?_)
  · have hi' : i < L.length := by omega
    obtain ⟨rs, q1, q2, q3⟩ := EltL.heads hE
    have hx := q3 i (by omega) hi'
    refine (Seq.up q1 H6.pres).getk (g := qv) i rfl (by omega) (rs[i]'(by omega)) rfl ?_
    generalize rs[i]'(by omega) = x at hx ⊢
    refine H6.alloc C_ok rfl fun a h7 H7 => ?_
    refine H7.storeAll C_ok 4 rfl rfl (qv x) rfl rfl rfl rfl fun h8 H8 => ?_
    refine ⟨x, (H8.box 4 rfl).cells0 _ rfl, ?_⟩
    have hP8 : PeelSt h8 p l k v L kn vs := ⟨H8.box 0 rfl, RdE.up hE H8.pres, H8.seq 1 rfl fun _ => rfl, H8.eRd 2 rfl fun _ => rfl⟩
    obtain ⟨hok, -⟩ := hL _ (List.getElem_mem hi')
    have hx8 : RdE EltQ h8 x L[i] := RdE.up hx H8.pres
    refine (left_spec p l k v L kn vs n w x L[i] h8 hP8 hI hx8 hok hw.2 (hcl _ (List.getElem_mem hi'))).mono ?_
    rintro _ h9 ⟨c, d, rfl, R9⟩
    refine ⟨(c, d), rfl, ?_⟩
    have H9 := H8.comp R9
    refine H9.alloc C_ok rfl fun a2 h10 H10 => ?_
    refine H10.storeAll C_ok 7 rfl rfl (qv (c, d)) rfl rfl rfl rfl fun h11 H11 => ?_
    refine ⟨c, (H11.box 7 rfl).cell0 rfl, ?_⟩
    have hcn := (H11.own 5 rfl).len
    have hlr : (restB' kn vs (L.take i)).length ≤ L.length := by
      unfold restB'
      refine Nat.le_trans (List.length_filter_le _ _) ?_
      simp; omega
    have hrs := rest_snoc kn vs L hi'
    have hcs := clash_snoc kn vs L hi'
    refine br_dec (fun e2 => ?_) (fun e2 => ?_)
    · have hne : (leftB kn vs L[i]).1.isEmpty = false := by
        cases hh : (leftB kn vs L[i]).1 with
        | nil => rw [hh] at hcn; simp at hcn; omega
        | cons a l => rfl
      rw [hne] at hrs hcs
      refine ⟨(c, d), (H11.box 7 rfl).cells0 _ rfl, ?_⟩
      have H12 := SpB.ownQ H11 5 6 (by decide) rfl rfl
      refine H12.ePush C_ok 3 5 (by decide) rfl rfl eQ rfl (by decide) (fun _ => rfl) one_qv rfl (by decide) (by omega) fun o' h13 H13 => ?_
      refine ⟨(i + 1, o'), by dsimp only; rw [Go.Vc.wrap_small _ (by omega) (by omega)]; rfl, ⟨by dsimp only; omega, by dsimp only; rw [hcs, hnc]; rfl, ?_⟩, by dsimp only; omega⟩
      dsimp only
      rw [hrs]
      exact H13.sel [0, 1, 2, 3]
    · have hem : (leftB kn vs L[i]).1.isEmpty = true := by
        cases hh : (leftB kn vs L[i]).1 with
        | nil => rfl
        | cons a l => rw [hh] at hcn; simp at hcn; omega
      rw [hem] at hrs hcs
      refine ⟨d, (H11.box 7 rfl).cell rfl, ?_⟩
      refine (nought_spec d _ h11 (H11.seq 6 rfl fun _ => rfl) (H11.own 6 rfl).cap (by have := (hI.leftOk hok).len; omega)).mono ?_
      rintro _ h12 ⟨rfl, rfl⟩
      refine ⟨_, rfl, br_not (fun e3 => ?_) (fun e3 => ?_)⟩
      · refine ⟨kn, vs, hI, .inl ⟨clash_take (i := i + 1) ?_, rfl, H11.sel []⟩⟩
        rw [hcs]; simp at e3; simp [e3]
      · refine ⟨(i + 1, o), by dsimp only; rw [Go.Vc.wrap_small _ (by omega) (by omega)]; rfl, ⟨by dsimp only; omega, ?_, ?_⟩, by dsimp only; omega⟩
        · dsimp only; rw [hcs, hnc]; simp at e3; simp; exact e3
        · dsimp only
          rw [hrs]
          exact H11.sel [0, 1, 2, 3]
  · have hie : i = L.length := by omega
    subst hie
    rw [List.take_length] at H6 hnc
    refine ⟨p, rfl, k, (H6.box 0 rfl).cell rfl, p, rfl, v, (H6.box 0 rfl).cell rfl, kn, vs, hI, .inr ⟨hnc, k, v, o, rfl, H6.sel [1, 2, 3]⟩⟩
end Go.Proofs.YtkcplnfomahleaaGreatDoor
namespace Go.Proofs.YtkcplnfomahleaaGreatDoor
open Go Go.Vc Go.Proofs Wl
set_option maxRecDepth 100000
theorem axpy_loop {B : Blocks} {h0 h : Heap} {As : List HP} (s f : Addr) (t : UInt8) (src dst : Sl) (ls ld : Row) (H : SpB B h0 h (OwnA T_uint8 dst 1 u8v ld :: As)) (hS : St B h0 As fun h => cellOf h s = some (.pointer (some f)) ∧ FieldB h f ∧ Rd h src 1 u8v ls)
    (hl : ls.length = ld.length) (hs : ls.length ≤ 2 ^ 30) {K : Heap → Prop} (hk : ∀ h', SpB B h0 h' (OwnA T_uint8 dst 1 u8v (addB t ls ld) :: As) → K h') :
    LoopM (σ := Int) (fun s5 K1 h1 =>
  Br (decide (s5 < ((src.len : Nat) : Int)))
  (∃ a6 : Addr, (src.ptr = some a6 ∧ 0 ≤ s5 ∧ s5 < ((src.len : Nat) : Int)) ∧
  ∃ x7 : Int, cellOf h1 (a6.add (s5.toNat * 1)) = some (.int .u8 x7) ∧
  ∃ a8 : Addr, (dst.ptr = some a8 ∧ 0 ≤ s5 ∧ s5 < ((dst.len : Nat) : Int)) ∧
  ∃ x9 : Int, cellOf h1 (a8.add (s5.toNat * 1)) = some (.int .u8 x9) ∧
  ∃ a10 : Addr, (some s = some a10) ∧
  ∃ x11 : Option Addr, cellOf h1 a10 = some (.pointer x11) ∧
  CallM Tryz.prog gf_Field_Mul_id #[(.pointer x11), (.int .u8 (t.toNat : Int)), (.int .u8 x7)] (.one (.sc (.int .u8))) h1 fun r12 h2 =>
  (Held.ok [(a8.add (s5.toNat * 1), (.int .u8 x9))] h2) ∧
  ∃ a13 : Addr, (dst.ptr = some a13 ∧ 0 ≤ s5 ∧ s5 < ((dst.len : Nat) : Int)) ∧
  Runs Tryz.prog (Instr.storeAt T_uint8 (.pointer (some (a13.add (s5.toNat * 1)))) (.int .u8 (IntKind.wrap .u8 ((BitVec.ofInt (IntKind.bits .u8) x9 ^^^ (BitVec.ofInt (IntKind.bits .u8) r12)).toNat : Nat)))) h2 fun _ h3 =>
  (Held.ok [] h3) ∧
  K1 (IntKind.wrap .i64 (s5 + (1 : Int))) h3) (K h1)) (0 : Int) h := by
  have hsl : src.len = ls.length := (hS.at [OwnA T_uint8 dst 1 u8v ld] H).2.2.len
  refine loop_inv (fun k : Nat => (k : Int)) (fun k h' => k ≤ ls.length ∧ SpB B h0 h' (OwnA T_uint8 dst 1 u8v (List.zipWith (fun x y => y ^^^ Gf.mul t x) (ls.take k) (ld.take k) ++ ld.drop k) :: As)) (fun k => ls.length - k) 0 rfl ⟨by omega, by simpa using H⟩ ?_
  rintro k h1 ⟨hk1, H1⟩
  obtain ⟨S1, S2, S3⟩ := hS.at [_] H1
  refine br_dec (fun e => ?_) (fun e => ?_)
  · have hk' : k < ls.length := by omega
    have hzl : (List.zipWith (fun x y => y ^^^ Gf.mul t x) (ls.take k) (ld.take k)).length = k := by simp; omega
    have hll : (List.zipWith (fun x y => y ^^^ Gf.mul t x) (ls.take k) (ld.take k) ++ ld.drop k).length = ld.length := by rw [List.length_append, hzl, List.length_drop]; omega
    refine S3.get1 k rfl hk' _ rfl ?_
    have hval : (List.zipWith (fun x y => y ^^^ Gf.mul t x) (ls.take k) (ld.take k) ++ ld.drop k)[k]'(by omega) = ld[k] := by
      rw [List.getElem_append_right (by omega)]; simp [hzl]
    refine (H1.seq 0 rfl fun _ => rfl).get1A k rfl (by omega) _ rfl fun ax hax => ?_
    rw [hval] at hax ⊢
    refine ⟨s, rfl, some f, S1, (mul_spec f t ls[k] h1 S2).mono ?_⟩
    rintro v h2 ⟨rfl, rfl⟩
    refine ⟨_, rfl, ⟨hax, trivial⟩, ?_⟩
    rw [xor_u8]
    refine H1.set C_ok 0 rfl (fun _ => rfl) rfl k rfl (by omega) _ rfl rfl rfl fun h3 H3 => ⟨trivial, ?_⟩
    rw [List.set_cons_zero, zip_take_set hl (by omega)] at H3
    exact ⟨k + 1, by rw [Go.Vc.wrap_small _ (by omega) (by omega)]; rfl, ⟨by omega, H3⟩, by omega⟩
  · have : k = ls.length := by omega
    subst this
    rw [List.take_of_length_le (Nat.le_refl _), List.take_of_length_le (by omega), List.drop_of_length_le (by omega), List.append_nil] at H1
    exact hk h1 H1
def solvC (f : Addr) (p : Int × Int × Int) (v r st dd lf wa mo : Sl) : List Value := [.pointer (some f), .int .i64 p.1, .int .i64 p.2.1, .int .i64 p.2.2, .slice v.ptr v.len v.cap, .slice r.ptr r.len r.cap, .slice st.ptr st.len st.cap, .slice dd.ptr dd.len dd.cap, .slice lf.ptr lf.len lf.cap, .slice wa.ptr wa.len wa.cap, .slice mo.ptr mo.len mo.cap]
structure SolvRd (h : Heap) (s f : Addr) (wa mo : Sl) (wr mr : List Sl) (W M : Mat) : Prop where
  fld : cellOf h s = some (.pointer (some f))
  way : cellOf h (s.add 9) = some (.slice wa.ptr wa.len wa.cap)
  more : cellOf h (s.add 10) = some (.slice mo.ptr mo.len mo.cap)
  field : FieldB h f
  rW : Seq2 h (fun b => b < h.size) wa 1 u8v W wr
  rM : Seq2 h (fun b => b < h.size) mo 1 u8v M mr
theorem SolvRd.of {h : Heap} {s f : Addr} {p : Int × Int × Int} {v r st dd lf wa mo : Sl} {wr mr : List Sl} {W M : Mat} (hb : Box h s T_decode_solver (solvC f p v r st dd lf wa mo)) (hf : FieldB h f) (h1 : Seq2 h (fun b => b < h.size) wa 1 u8v W wr) (h2 : Seq2 h (fun b => b < h.size) mo 1 u8v M mr) : SolvRd h s f wa mo wr mr W M :=
  ⟨hb.cell0 rfl, hb.cell rfl, hb.cell rfl, hf, h1, h2⟩
theorem sadd_spec {B : Blocks} {h0 h : Heap} {As : List HP} (s f : Addr) (t : UInt8) (c : Int) (way more wa mo : Sl) (w0 m0 : Row) (wr mr : List Sl) (W M : Mat) (H : SpB B h0 h (OwnA T_uint8 way 1 u8v w0 :: OwnA T_uint8 more 1 u8v m0 :: As)) (hS : St B h0 As fun h => SolvRd h s f wa mo wr mr W M)
    (hc : 0 ≤ c) (hW : c.toNat < W.length) (hM : c.toNat < M.length) (hw : (rowB W c.toNat).length = w0.length) (hm : (rowB M c.toNat).length = m0.length) (h1 : w0.length ≤ 2 ^ 30) (h2 : m0.length ≤ 2 ^ 30) :
    Meets Tryz.prog decode_solver_add_id #[.pointer (some s), .int .u8 t.toNat, .int .i64 c, .slice way.ptr way.len way.cap, .slice more.ptr more.len more.cap] h fun v h' => v = .tuple #[] ∧ SpB B h0 h' (OwnA T_uint8 way 1 u8v (addB t (rowB W c.toNat) w0) :: OwnA T_uint8 more 1 u8v (addB t (rowB M c.toNat) m0) :: As) := by
  refine decode_solver_add_run (some s) _ c way more ?_
  unfold decode_solver_add_m
  have S := hS.at [_, _] H
  refine ⟨s, rfl, wa, S.way, ?_⟩
  rw [row_get hW] at hw ⊢
  rw [row_get hM] at hm ⊢
  have q := S.rW
  have hrl := q.len
  refine q.top.getH c.toNat (by omega) (by omega) ?_
  refine axpy_loop s f t (wr[c.toNat]'(by omega)) way (W[c.toNat]) w0 H (St.mk' fun h' H' => ?_) hw (by omega) fun h3 H3 => ?_
  · have S' := hS.at [_] H'
    exact ⟨S'.fld, S'.field, S'.rW.row _ _ _ (List.getElem?_eq_getElem _) (List.getElem?_eq_getElem hW)⟩
  have S3 := hS.at [_, _] H3
  refine ⟨s, rfl, mo, S3.more, ?_⟩
  have q2 := S3.rM
  have hrl2 := q2.len
  refine q2.top.getH c.toNat (by omega) (by omega) ?_
  refine axpy_loop s f t (mr[c.toNat]'(by omega)) more (M[c.toNat]) m0 H3.swap01 (St.mk' fun h' H' => ?_) hm (by omega) fun h3 H3 => ⟨rfl, H3.swap01⟩
  · have S' := hS.at [_] H'
    exact ⟨S'.fld, S'.field, S'.rM.row _ _ _ (List.getElem?_eq_getElem _) (List.getElem?_eq_getElem hM)⟩
end Go.Proofs.YtkcplnfomahleaaGreatDoor
namespace Go.Proofs.YtkcplnfomahleaaGreatDoor
open Go Go.Vc Go.Proofs Wl
set_option maxRecDepth 100000
theorem inPool_rep (pool : List (Sl × Row)) (hp : (⟨none, 0, 0⟩, []) ∈ pool) (n : Nat) : inPool pool id (List.replicate n ⟨none, 0, 0⟩) (List.replicate n []) :=
  ⟨by simp, fun i r l h1 h2 => by
    rw [List.getElem?_replicate] at h1 h2
    split at h1
    · rename_i hj; rw [if_pos hj] at h2; cases h1; cases h2; exact hp
    · cases h1⟩
theorem SpB.poolNil {B : Blocks} {h0 h : Heap} {As : List HP} (H : SpB B h0 h As) (i : Nat) {pool : List (Sl × Row)} (hi : As[i]? = some (PoolA pool)) : SpB B h0 h (As.set i (PoolA ((⟨none, 0, 0⟩, []) :: pool))) :=
  H.weak i hi fun q hq x hx => by
    rcases List.mem_cons.1 hx with rfl | hx
    · exact Seq.nil _ _ _ _ _ _
    · exact hq x hx
structure Given (h : Heap) (f : Addr) (r st dd lf : Sl) (rr : List (Sl × Sl)) (R : List EqL) (ST : List (Int × Int)) (D L : List Int) : Prop where
  field : FieldB h f
  rest : RdF EltQ 2 qv h r rr R
  steps : Rd h st 2 stepv ST
  dead : Rd h dd 1 intv D
  left : Rd h lf 1 intv L
abbrev SA (s : Addr) (cs : List Value) : HP := BoxA s T_decode_solver cs
abbrev HA (s : Sl) (rs : List Sl) : HP := OwnA T_sl_uint8 s 1 slv rs
abbrev RA (s : Sl) (l : Row) : HP := OwnA T_uint8 s 1 u8v l
theorem goodR_app {R : List (List Int)} : ∀ {l1 l2 : List (Int × Int)} {D : Int → Prop}, goodR R D (l1 ++ l2) → goodR R D l1 ∧ goodR R (fun x => D x ∨ ∃ i, (i, x) ∈ l1) l2
  | [], l2, D, h => ⟨trivial, by
    have : (fun x => D x ∨ ∃ i, (i, x) ∈ ([] : List (Int × Int))) = D := by funext x; simp
    rw [this]; exact h⟩
  | (i, c) :: l1, l2, D, h => by
    obtain ⟨a, b, c', d, e⟩ := h
    obtain ⟨e1, e2⟩ := goodR_app e
    refine ⟨⟨a, b, c', d, e1⟩, ?_⟩
    have : (fun x => D x ∨ ∃ j, (j, x) ∈ (i, c) :: l1) = fun x => (D x ∨ x = c) ∨ ∃ j, (j, x) ∈ l1 := by
      funext x
      simp only [List.mem_cons, Prod.mk.injEq, eq_iff_iff]
      constructor
      · rintro (h | ⟨j, ⟨_, h⟩ | h⟩)
        · exact .inl (.inl h)
        · exact .inl (.inr h)
        · exact .inr ⟨j, h⟩
      · rintro ((h | h) | ⟨j, h⟩)
        · exact .inl h
        · exact .inr ⟨i, .inl ⟨rfl, h⟩⟩
        · exact .inr ⟨j, .inr h⟩
    rw [this]; exact e2
section
variable {B : Blocks} {h0 h : Heap} {As : List HP}
theorem plain_start (s f : Addr) (p : Int × Int × Int) (v r st dd lf wa0 mo0 : Sl) (n : Nat) (pool : List (Sl × Row)) (H : SpB B h0 h (SA s (solvC f p v r st dd lf wa0 mo0) :: PoolA pool :: As)) (hv : v.len = n) (hn : n ≤ 64) {K : Unit → Heap → Prop}
    (hk : ∀ wa mo h', wa.len = n → mo.len = n → SpB B h0 h' (SA s (solvC f p v r st dd lf wa mo) :: HA wa (List.replicate n ⟨none, 0, 0⟩) :: HA mo (List.replicate n ⟨none, 0, 0⟩) :: PoolA pool :: As) → K () h') : (fun (s_0 : Option Addr) (K1 : Unit → Heap → Prop) =>
  ∃ a3 : Addr, (s_0 = some a3) ∧
  ∃ x4 : Sl, cellOf h (a3.add 4) = some (.slice x4.ptr x4.len x4.cap) ∧
  ∃ a5 : Addr, (s_0 = some a5) ∧
  ∃ x6 : Sl, cellOf h (a5.add 4) = some (.slice x6.ptr x6.len x6.cap) ∧
  (RunsR Tryz.prog (Instr.makeSlice T_sl_sl_uint8 (.int .i64 ((x4.len : Nat) : Int)) (.int .i64 ((x4.len : Nat) : Int))) (.one (.sc .slc)) h fun v7 h1 =>
  (Held.ok [(a5.add 4, (.slice x6.ptr x6.len x6.cap)), (a3.add 4, (.slice x4.ptr x4.len x4.cap))] h1) ∧
  ∃ a8 : Addr, (s_0 = some a8) ∧
  (RunsR Tryz.prog (Instr.makeSlice T_sl_sl_uint8 (.int .i64 ((x6.len : Nat) : Int)) (.int .i64 ((x6.len : Nat) : Int))) (.one (.sc .slc)) h1 fun v9 h2 =>
  (Held.ok [(a5.add 4, (.slice x6.ptr x6.len x6.cap)), (a3.add 4, (.slice x4.ptr x4.len x4.cap))] h2) ∧
  Runs Tryz.prog (Instr.storeAt T_sl_sl_uint8 (.pointer (some (a8.add 9))) (.slice v7.ptr v7.len v7.cap)) h2 fun _ h3 =>
  (Held.ok [] h3) ∧
  ∃ a10 : Addr, (s_0 = some a10) ∧
  Runs Tryz.prog (Instr.storeAt T_sl_sl_uint8 (.pointer (some (a10.add 10))) (.slice v9.ptr v9.len v9.cap)) h3 fun _ h4 =>
  (Held.ok [] h4) ∧
  K1 () h4) ∧ (Runs Tryz.prog (Instr.storeAt T_sl_sl_uint8 (.pointer (some (a8.add 9))) (.slice v7.ptr v7.len v7.cap)) h1 fun _ h5 =>
  (Held.ok [] h5) ∧
  RunsR Tryz.prog (Instr.makeSlice T_sl_sl_uint8 (.int .i64 ((x6.len : Nat) : Int)) (.int .i64 ((x6.len : Nat) : Int))) (.one (.sc .slc)) h5 fun v11 h6 =>
  (Held.ok [] h6) ∧
  ∃ a12 : Addr, (s_0 = some a12) ∧
  Runs Tryz.prog (Instr.storeAt T_sl_sl_uint8 (.pointer (some (a12.add 10))) (.slice v11.ptr v11.len v11.cap)) h6 fun _ h7 =>
  (Held.ok [] h7) ∧
  K1 () h7)) ∧ (RunsR Tryz.prog (Instr.makeSlice T_sl_sl_uint8 (.int .i64 ((x6.len : Nat) : Int)) (.int .i64 ((x6.len : Nat) : Int))) (.one (.sc .slc)) h fun v13 h8 =>
  (Held.ok [(a5.add 4, (.slice x6.ptr x6.len x6.cap)), (a3.add 4, (.slice x4.ptr x4.len x4.cap))] h8) ∧
  RunsR Tryz.prog (Instr.makeSlice T_sl_sl_uint8 (.int .i64 ((x4.len : Nat) : Int)) (.int .i64 ((x4.len : Nat) : Int))) (.one (.sc .slc)) h8 fun v14 h9 =>
  (Held.ok [(a5.add 4, (.slice x6.ptr x6.len x6.cap)), (a3.add 4, (.slice x4.ptr x4.len x4.cap))] h9) ∧
  ∃ a15 : Addr, (s_0 = some a15) ∧
  Runs Tryz.prog (Instr.storeAt T_sl_sl_uint8 (.pointer (some (a15.add 9))) (.slice v14.ptr v14.len v14.cap)) h9 fun _ h10 =>
  (Held.ok [] h10) ∧
  ∃ a16 : Addr, (s_0 = some a16) ∧
  Runs Tryz.prog (Instr.storeAt T_sl_sl_uint8 (.pointer (some (a16.add 10))) (.slice v13.ptr v13.len v13.cap)) h10 fun _ h11 =>
  (Held.ok [] h11) ∧
  K1 () h11)) (some s) K := by
  have hb := H.box 0 rfl
  refine ⟨s, rfl, v, hb.cell rfl, s, rfl, v, hb.cell rfl, ?_, ?_⟩
  · refine H.make C_ok slv eSlU8 (by decide) ⟨none, 0, 0⟩ rfl rfl n n (by rw [hv]) (by rw [hv]) (Nat.le_refl _) (by omega) fun wa h1 h1l h1c H1 => ?_
    have H1 := H1.front1
    have hb1 := H1.box 1 rfl
    refine ⟨⟨hb1.cell rfl, hb1.cell rfl, trivial⟩, s, rfl, ?_, ?_⟩
    · refine H1.make C_ok slv eSlU8 (by decide) ⟨none, 0, 0⟩ rfl rfl n n (by rw [hv]) (by rw [hv]) (Nat.le_refl _) (by omega) fun mo h2 h2l h2c H2 => ?_
      have H2 := H2.front1
      have hb2 := H2.box 2 rfl
      refine ⟨⟨hb2.cell rfl, hb2.cell rfl, trivial⟩, ?_⟩
      refine H2.store C_ok 2 rfl rfl 9 [.slice wa.ptr wa.len wa.cap] rfl rfl rfl (by simp [solvC]) fun h3 H3 => ⟨trivial, s, rfl, ?_⟩
      refine H3.store C_ok 2 rfl rfl 10 [.slice mo.ptr mo.len mo.cap] rfl rfl rfl (by simp [solvC]) fun h4 H4 => ⟨trivial, ?_⟩
      exact hk wa mo h4 h1l h2l (H4.selT 4 [2, 1, 0, 3])
    · refine H1.store C_ok 1 rfl rfl 9 [.slice wa.ptr wa.len wa.cap] rfl rfl rfl (by simp [solvC]) fun h2 H2 => ⟨trivial, ?_⟩
      refine H2.make C_ok slv eSlU8 (by decide) ⟨none, 0, 0⟩ rfl rfl n n (by rw [hv]) (by rw [hv]) (Nat.le_refl _) (by omega) fun mo h3 h2l h2c H3 => ⟨trivial, s, rfl, ?_⟩
      have H3 := H3.front1
      refine H3.store C_ok 2 rfl rfl 10 [.slice mo.ptr mo.len mo.cap] rfl rfl rfl (by simp [solvC]) fun h4 H4 => ⟨trivial, ?_⟩
      exact hk wa mo h4 h1l h2l (H4.selT 4 [2, 1, 0, 3])
  · refine H.make C_ok slv eSlU8 (by decide) ⟨none, 0, 0⟩ rfl rfl n n (by rw [hv]) (by rw [hv]) (Nat.le_refl _) (by omega) fun mo h1 h1l h1c H1 => ?_
    have H1 := H1.front1
    have hb1 := H1.box 1 rfl
    refine ⟨⟨hb1.cell rfl, hb1.cell rfl, trivial⟩, ?_⟩
    refine H1.make C_ok slv eSlU8 (by decide) ⟨none, 0, 0⟩ rfl rfl n n (by rw [hv]) (by rw [hv]) (Nat.le_refl _) (by omega) fun wa h2 h2l h2c H2 => ?_
    have H2 := H2.front1
    have hb2 := H2.box 2 rfl
    refine ⟨⟨hb2.cell rfl, hb2.cell rfl, trivial⟩, s, rfl, ?_⟩
    refine H2.store C_ok 2 rfl rfl 9 [.slice wa.ptr wa.len wa.cap] rfl rfl rfl (by simp [solvC]) fun h3 H3 => ⟨trivial, s, rfl, ?_⟩
    refine H3.store C_ok 2 rfl rfl 10 [.slice mo.ptr mo.len mo.cap] rfl rfl rfl (by simp [solvC]) fun h4 H4 => ⟨trivial, ?_⟩
    exact hk wa mo h4 h2l h1l (H4.selT 4 [2, 0, 1, 3])
end
end Go.Proofs.YtkcplnfomahleaaGreatDoor
namespace Go.Proofs.YtkcplnfomahleaaGreatDoor
open Go Go.Vc Go.Proofs Wl
set_option maxRecDepth 100000
section
variable {B : Blocks} {h0 h : Heap} {As : List HP}
theorem deadB_len (n nd w : Nat) (d : List Int) : (deadB n nd w d).1.length = n ∧ (deadB n nd w d).2.length = n := by
  unfold deadB
  have : ∀ (l : List (Int × Nat)) (s : Mat × Mat), (l.foldl (fun s p => (s.1.set p.1.toNat (unitB nd p.2), s.2.set p.1.toNat (zeroB w))) s).1.length = s.1.length ∧ (l.foldl (fun s p => (s.1.set p.1.toNat (unitB nd p.2), s.2.set p.1.toNat (zeroB w))) s).2.length = s.2.length := by
    intro l
    induction l with
    | nil => intro s; exact ⟨rfl, rfl⟩
    | cons a l ih => intro s; rw [List.foldl_cons]; have := ih (s.1.set a.1.toNat (unitB nd a.2), s.2.set a.1.toNat (zeroB w)); simpa using this
  have := this d.zipIdx (List.replicate n [], List.replicate n [])
  simpa using this
abbrev Told (s f : Addr) (p : Int × Int × Int) (v r st dd lf wa mo : Sl) (wr mr : List Sl) (pl : List (Sl × Row)) : List HP := [SA s (solvC f p v r st dd lf wa mo), HA wa wr, HA mo mr, PoolA pl]
theorem plain_dead (s f : Addr) (p : Int × Int × Int) (v r st dd lf wa mo : Sl) (wr mr : List Sl) (pl : List (Sl × Row)) (c : Int) (nd w : Nat) (H : SpB B h0 h (Told s f p v r st dd lf wa mo wr mr pl ++ As)) (hc0 : 0 ≤ c) (hw : c.toNat < wr.length) (hm : c.toNat < mr.length) (hp : p.2.2 = w) (hd : dd.len = nd) (hnd : nd ≤ 64) (hwl : w ≤ 2 ^ 20) {K : Unit → Heap → Prop}
    (hk : ∀ a b h', SpB B h0 h' (RA a (zeroB nd) :: RA b (zeroB w) :: (Told s f p v r st dd lf wa mo (wr.set c.toNat a) (mr.set c.toNat b) pl ++ As)) → K () h') : (fun (s_0 : Option Addr) (K3 : Unit → Heap → Prop) =>
  ∃ a23 : Addr, (s_0 = some a23) ∧
  ∃ x24 : Sl, cellOf h (a23.add 9) = some (.slice x24.ptr x24.len x24.cap) ∧
  ∃ a25 : Addr, (s_0 = some a25) ∧
  ∃ x26 : Sl, cellOf h (a25.add 10) = some (.slice x26.ptr x26.len x26.cap) ∧
  ∃ a27 : Addr, (s_0 = some a27) ∧
  ∃ x28 : Int, cellOf h ((a27.add 1).add 2) = some (.int .i64 x28) ∧
  (RunsR Tryz.prog (Instr.makeSlice T_sl_uint8 (.int .i64 ((dd.len : Nat) : Int)) (.int .i64 ((dd.len : Nat) : Int))) (.one (.sc .slc)) h fun v29 h14 =>
  (Held.ok [((a27.add 1).add 2, (.int .i64 x28)), (a25.add 10, (.slice x26.ptr x26.len x26.cap)), (a23.add 9, (.slice x24.ptr x24.len x24.cap))] h14) ∧
  ∃ a30 : Addr, (x24.ptr = some a30 ∧ 0 ≤ c ∧ c < ((x24.len : Nat) : Int)) ∧
  (RunsR Tryz.prog (Instr.makeSlice T_sl_uint8 (.int .i64 x28) (.int .i64 x28)) (.one (.sc .slc)) h14 fun v31 h15 =>
  (Held.ok [(a25.add 10, (.slice x26.ptr x26.len x26.cap)), (a23.add 9, (.slice x24.ptr x24.len x24.cap))] h15) ∧
  Runs Tryz.prog (Instr.storeAt T_sl_uint8 (.pointer (some (a30.add (c.toNat * 1)))) (.slice v29.ptr v29.len v29.cap)) h15 fun _ h16 =>
  (Held.ok [] h16) ∧
  ∃ a32 : Addr, (x26.ptr = some a32 ∧ 0 ≤ c ∧ c < ((x26.len : Nat) : Int)) ∧
  Runs Tryz.prog (Instr.storeAt T_sl_uint8 (.pointer (some (a32.add (c.toNat * 1)))) (.slice v31.ptr v31.len v31.cap)) h16 fun _ h17 =>
  (Held.ok [] h17) ∧
  K3 () h17) ∧ (Runs Tryz.prog (Instr.storeAt T_sl_uint8 (.pointer (some (a30.add (c.toNat * 1)))) (.slice v29.ptr v29.len v29.cap)) h14 fun _ h18 =>
  (Held.ok [] h18) ∧
  RunsR Tryz.prog (Instr.makeSlice T_sl_uint8 (.int .i64 x28) (.int .i64 x28)) (.one (.sc .slc)) h18 fun v33 h19 =>
  (Held.ok [] h19) ∧
  ∃ a34 : Addr, (x26.ptr = some a34 ∧ 0 ≤ c ∧ c < ((x26.len : Nat) : Int)) ∧
  Runs Tryz.prog (Instr.storeAt T_sl_uint8 (.pointer (some (a34.add (c.toNat * 1)))) (.slice v33.ptr v33.len v33.cap)) h19 fun _ h20 =>
  (Held.ok [] h20) ∧
  K3 () h20)) ∧ (RunsR Tryz.prog (Instr.makeSlice T_sl_uint8 (.int .i64 x28) (.int .i64 x28)) (.one (.sc .slc)) h fun v35 h21 =>
  (Held.ok [(a25.add 10, (.slice x26.ptr x26.len x26.cap)), (a23.add 9, (.slice x24.ptr x24.len x24.cap))] h21) ∧
  RunsR Tryz.prog (Instr.makeSlice T_sl_uint8 (.int .i64 ((dd.len : Nat) : Int)) (.int .i64 ((dd.len : Nat) : Int))) (.one (.sc .slc)) h21 fun v36 h22 =>
  (Held.ok [(a25.add 10, (.slice x26.ptr x26.len x26.cap)), (a23.add 9, (.slice x24.ptr x24.len x24.cap))] h22) ∧
  ∃ a37 : Addr, (x24.ptr = some a37 ∧ 0 ≤ c ∧ c < ((x24.len : Nat) : Int)) ∧
  Runs Tryz.prog (Instr.storeAt T_sl_uint8 (.pointer (some (a37.add (c.toNat * 1)))) (.slice v36.ptr v36.len v36.cap)) h22 fun _ h23 =>
  (Held.ok [] h23) ∧
  ∃ a38 : Addr, (x26.ptr = some a38 ∧ 0 ≤ c ∧ c < ((x26.len : Nat) : Int)) ∧
  Runs Tryz.prog (Instr.storeAt T_sl_uint8 (.pointer (some (a38.add (c.toNat * 1)))) (.slice v35.ptr v35.len v35.cap)) h23 fun _ h24 =>
  (Held.ok [] h24) ∧
  K3 () h24)) (some s) K := by
  have hb := H.box 0 rfl
  have mk : ∀ {h1 : Heap} {Cs : List HP} (m : Nat) (hm : m ≤ 2 ^ 20) {z1 z2 : Int}, z1 = (m : Int) → z2 = (m : Int) → SpB B h0 h1 Cs → ∀ {K : Sl → Heap → Prop}, (∀ a h', SpB B h0 h' (RA a (zeroB m) :: Cs) → K a h') →
      RunsR Tryz.prog (Instr.makeSlice T_sl_uint8 (.int .i64 z1) (.int .i64 z2)) (.one (.sc .slc)) h1 K := by
    intro h1 Cs m hm z1 z2 e1 e2 H1 K hK
    subst e1; subst e2
    exact H1.make C_ok u8v eU8 (by decide) 0 rfl rfl m m rfl rfl (Nat.le_refl _) (by omega) fun a h' _ _ H' => hK a h' H'.front1
  refine ⟨s, rfl, wa, hb.cell rfl, s, rfl, mo, hb.cell rfl, s, rfl, p.2.2, show cellOf h (s.add 3) = _ from hb.cell rfl, ?_, ?_⟩
  · refine mk nd (by omega) (by rw [hd]) (by rw [hd]) H fun a h1 H1 => ?_
    have hb1 := H1.box 1 rfl
    refine ⟨⟨show cellOf h1 (s.add 3) = _ from hb1.cell rfl, hb1.cell rfl, hb1.cell rfl, trivial⟩, ?_⟩
    have stW : ∀ {h2 : Heap} {Cs : List HP} {wr : List Sl} (i : Nat) (a : Sl) {s' : Sl}, SpB B h0 h2 Cs → Cs[i]? = some (HA s' wr) → c.toNat < wr.length → ∀ {K : Heap → Prop}, (∀ h', SpB B h0 h' (Cs.set i (HA s' (wr.set c.toNat a))) → K h') → ∃ x : Addr, (s'.ptr = some x ∧ 0 ≤ c ∧ c < ((s'.len : Nat) : Int)) ∧ Runs Tryz.prog (Instr.storeAt T_sl_uint8 (.pointer (some (x.add (c.toNat * 1)))) (.slice a.ptr a.len a.cap)) h2 fun _ h' => K h' := by
      intro h2 Cs wr i a s' H2 hi hl K hK
      exact H2.set C_ok i hi (fun _ => rfl) rfl c.toNat (by omega) hl a rfl rfl rfl fun h3 H3 => hK h3 H3
    obtain ⟨x, hx, -⟩ := stW (K := fun _ => True) 2 a H1 rfl hw fun _ _ => trivial
    refine ⟨x, hx, ?_, ?_⟩
    · refine mk w hwl hp hp H1 fun b h2 H2 => ?_
      have hb2 := H2.box 2 rfl
      refine ⟨⟨hb2.cell rfl, hb2.cell rfl, trivial⟩, ?_⟩
      obtain ⟨x', hx', hr⟩ := stW (K := fun h16 => Held.ok [] h16 ∧ ∃ a32 : Addr, (mo.ptr = some a32 ∧ 0 ≤ c ∧ c < ((mo.len : Nat) : Int)) ∧
  Runs Tryz.prog (Instr.storeAt T_sl_uint8 (.pointer (some (a32.add (c.toNat * 1)))) (.slice b.ptr b.len b.cap)) h16 fun _ h17 => (Held.ok [] h17) ∧ K () h17) 3 a H2 rfl hw fun h3 H3 => ⟨trivial, stW 4 b H3 rfl hm fun h4 H4 => ⟨trivial, hk a b h4 (H4.selT 6 [1, 0, 2, 3, 4, 5])⟩⟩
      have e : x = x' := Option.some.inj (hx.1.symm.trans hx'.1)
      subst e; exact hr
    · obtain ⟨x', hx', hr⟩ := stW (K := fun h18 => Held.ok [] h18 ∧ RunsR Tryz.prog (Instr.makeSlice T_sl_uint8 (.int .i64 p.2.2) (.int .i64 p.2.2)) (.one (.sc .slc)) h18 fun v33 h19 =>
  (Held.ok [] h19) ∧
  ∃ a34 : Addr, (mo.ptr = some a34 ∧ 0 ≤ c ∧ c < ((mo.len : Nat) : Int)) ∧
  Runs Tryz.prog (Instr.storeAt T_sl_uint8 (.pointer (some (a34.add (c.toNat * 1)))) (.slice v33.ptr v33.len v33.cap)) h19 fun _ h20 =>
  (Held.ok [] h20) ∧ K () h20) 2 a H1 rfl hw fun h3 H3 => ⟨trivial, mk w hwl hp hp H3 fun b h4 H4 => ⟨trivial, stW 4 b H4 rfl hm fun h5 H5 => ⟨trivial, hk a b h5 (H5.selT 6 [1, 0, 2, 3, 4, 5])⟩⟩⟩
      have e : x = x' := Option.some.inj (hx.1.symm.trans hx'.1)
      subst e; exact hr
  · refine mk w hwl hp hp H fun b h1 H1 => ?_
    have hb1 := H1.box 1 rfl
    refine ⟨⟨hb1.cell rfl, hb1.cell rfl, trivial⟩, ?_⟩
    refine mk nd (by omega) (by rw [hd]) (by rw [hd]) H1 fun a h2 H2 => ?_
    have hb2 := H2.box 2 rfl
    refine ⟨⟨hb2.cell rfl, hb2.cell rfl, trivial⟩, ?_⟩
    refine H2.set C_ok 3 rfl (fun _ => rfl) rfl c.toNat (by omega) hw a rfl rfl rfl fun h3 H3 => ⟨trivial, ?_⟩
    refine H3.set C_ok 4 rfl (fun _ => rfl) rfl c.toNat (by omega) hm b rfl rfl rfl fun h4 H4 => ⟨trivial, hk a b h4 (H4.selT 6 [0, 1, 2, 3, 4, 5])⟩
end
end Go.Proofs.YtkcplnfomahleaaGreatDoor
namespace Go.Proofs.YtkcplnfomahleaaGreatDoor
open Go Go.Vc Go.Proofs Wl
set_option maxRecDepth 100000
section
variable {B : Blocks} {h0 h : Heap} {As : List HP}
theorem two_rows {h : Heap} {Cs : List HP} (x : Sl) (m : Row) (nd : Nat) (z : Int) (H : SpB B h0 h Cs) (hz : z = nd) (hnd : nd ≤ 64) (hm : m.length ≤ 2 ^ 20) {L L2 : Held} (hL : L.ok h) (hL2 : L2.ok h) (hx : St B h0 Cs fun h => Rd h x 1 u8v m) {K : Sl → Sl → Heap → Prop}
    (hk : ∀ a b h', Pres (fun b => b < h.size) h h' → SpB B h0 h' (RA a (zeroB nd) :: RA b m :: Cs) → K a b h') :
    (RunsR Tryz.prog (Instr.makeSlice T_sl_uint8 (.int .i64 z) (.int .i64 z)) (.one (.sc .slc)) h fun v59 h33 =>
  (Held.ok L h33) ∧
  CallM Tryz.prog bytes_Clone_id #[(.slice x.ptr x.len x.cap)] (.one (.sc .slc)) h33 fun r60 h34 => K v59 r60 h34) ∧ (CallM Tryz.prog bytes_Clone_id #[(.slice x.ptr x.len x.cap)] (.one (.sc .slc)) h fun r61 h35 =>
  (Held.ok L2 h35) ∧
  RunsR Tryz.prog (Instr.makeSlice T_sl_uint8 (.int .i64 z) (.int .i64 z)) (.one (.sc .slc)) h35 fun v62 h36 => K v62 r61 h36) := by
  subst hz
  constructor
  · refine H.makeP C_ok u8v eU8 (by decide) 0 rfl rfl nd nd rfl rfl (Nat.le_refl _) (by omega) fun a h1 _ P1 H1 => ⟨held_grow P1 hL, ?_⟩
    have H1 := H1.front1
    refine (cloneB_spec x m h1 (hx.at [_] H1) (by omega)).mono ?_
    rintro _ h2 ⟨b, rfl, R2⟩
    exact ⟨b, rfl, hk a b h2 (up P1 R2.pres) ((H1.comp1 R2).swap01)⟩
  · refine (cloneB_spec x m h (hx.at [] H) (by omega)).mono ?_
    rintro _ h1 ⟨b, rfl, R1⟩
    have H1 := H.comp1 R1
    refine ⟨b, rfl, held_grow R1.pres hL2, ?_⟩
    refine H1.makeP C_ok u8v eU8 (by decide) 0 rfl rfl nd nd rfl rfl (Nat.le_refl _) (by omega) fun a h2 _ P2 H2 => ?_
    exact hk a b h2 (up R1.pres P2) H2.front1
structure ToldIs (pool pl : List (Sl × Row)) (wr mr : List Sl) (W M : Mat) : Prop where
  sub : ∀ x ∈ pool, x ∈ pl
  way : inPool pl id wr W
  more : inPool pl id mr M
theorem ToldIs.step {pool pl : List (Sl × Row)} {wr mr : List Sl} {W M : Mat} (x : ToldIs pool pl wr mr W M) (c : Nat) (a b : Sl) (l m : Row) : ToldIs pool ((b, m) :: (a, l) :: pl) (wr.set c a) (mr.set c b) (W.set c l) (M.set c m) :=
  ⟨fun y hy => by simp [x.sub y hy], (x.way.mono fun y hy => by simp [hy]).set c (by simp), (x.more.mono fun y hy => by simp [hy]).set c (by simp)⟩
theorem plain_spec (s f : Addr) (p : Int × Int × Int) (v r st dd lf wa0 mo0 : Sl) (rr : List (Sl × Sl)) (R : List EqL) (ST : List (Int × Int)) (D L : List Int) (n nd w : Nat) (pool : List (Sl × Row)) (H : SpB B h0 h (SA s (solvC f p v r st dd lf wa0 mo0) :: PoolA pool :: As)) (hS : St B h0 As fun h => Given h f r st dd lf rr R ST D L)
    (hv : v.len = n) (hn : n ≤ 64) (hp : p.2.2 = w) (hw : w ≤ 2 ^ 20) (hnd : D.length = nd) (hnd2 : nd ≤ 64) (hR : ∀ e ∈ R, EqOk n w e) (hD : ∀ c ∈ D, 0 ≤ c ∧ c < (n : Int)) (hDn : D.Nodup) (hg : goodR (R.map Prod.fst) (· ∈ D) ST) (hSTl : ST.length ≤ 2 ^ 20) (hRl : ∀ e ∈ R, e.1.length ≤ 2 ^ 20) (hpn : (⟨none, 0, 0⟩, []) ∈ pool) :
    Meets Tryz.prog decode_solver_plain_id #[.pointer (some s)] h fun v' h' => v' = .tuple #[] ∧ ∃ wa mo wr mr pl, SpB B h0 h' (Told s f p v r st dd lf wa mo wr mr pl ++ As) ∧ ToldIs pool pl wr mr (ST.foldl (stepW R nd) (deadB n nd w D)).1 (ST.foldl (stepW R nd) (deadB n nd w D)).2 := by
  refine decode_solver_plain_run (some s) ?_
  unfold decode_solver_plain_m
  have hb := H.box 0 rfl
  have hdl : dd.len = nd := by rw [(hS.at [_, _] H).dead.len, hnd]
  refine ⟨s, rfl, dd, show cellOf h (s.add 7) = _ from hb.cell rfl, ?_⟩
  refine join_cut (fun _ h' => ∃ wa mo, wa.len = n ∧ mo.len = n ∧ SpB B h0 h' (Told s f p v r st dd lf wa mo (List.replicate n ⟨none, 0, 0⟩) (List.replicate n ⟨none, 0, 0⟩) pool ++ As)) ?_ ?_
  · exact plain_start (K := fun _ h' => ∃ wa mo, wa.len = n ∧ mo.len = n ∧ SpB B h0 h' (Told s f p v r st dd lf wa mo (List.replicate n ⟨none, 0, 0⟩) (List.replicate n ⟨none, 0, 0⟩) pool ++ As)) s f p v r st dd lf wa0 mo0 n pool H hv hn fun wa mo h' h1 h2 H' => ⟨wa, mo, h1, h2, H'⟩
  rintro - h1 ⟨wa, mo, hwa, hmo, H1⟩
  have hb1 := H1.box 0 rfl
  refine ⟨s, rfl, dd, show cellOf h1 (s.add 7) = _ from hb1.cell rfl, ?_⟩
  refine loop_inv (fun t : Nat × List Sl × List Sl × List (Sl × Row) => (t.1 : Int)) (fun t h' => t.1 ≤ nd ∧ SpB B h0 h' (Told s f p v r st dd lf wa mo t.2.1 t.2.2.1 t.2.2.2 ++ As) ∧ ToldIs pool t.2.2.2 t.2.1 t.2.2.1 (deadB n nd w (D.take t.1)).1 (deadB n nd w (D.take t.1)).2) (fun t => nd - t.1)
    (0, List.replicate n ⟨none, 0, 0⟩, List.replicate n ⟨none, 0, 0⟩, pool) rfl ⟨by omega, H1, ⟨fun _ h => h, inPool_rep pool hpn n, inPool_rep pool hpn n⟩⟩ ?_
  rintro ⟨i, wr, mr, pl⟩ h2 ⟨hi, H2, T2⟩
  dsimp only at *
  have hdb := deadB_len n nd w (D.take i)
  have hwrl := T2.way.1; have hmrl := T2.more.1
  refine br_dec (fun e => ?_) (fun e => ?_)
  · have hi' : i < nd := by omega
    have hc := hD _ (List.getElem_mem (show i < D.length by omega))
    refine (hS.at [_, _, _, _] H2).dead.get1 i rfl (by omega) _ rfl ?_
    refine join_cut (fun _ h' => ∃ a b, SpB B h0 h' (RA a (zeroB nd) :: RA b (zeroB w) :: (Told s f p v r st dd lf wa mo (wr.set D[i].toNat a) (mr.set D[i].toNat b) pl ++ As))) ?_ ?_
    · exact plain_dead (K := fun _ h' => ∃ a b, SpB B h0 h' (RA a (zeroB nd) :: RA b (zeroB w) :: (Told s f p v r st dd lf wa mo (wr.set D[i].toNat a) (mr.set D[i].toNat b) pl ++ As))) s f p v r st dd lf wa mo wr mr pl D[i] nd w H2 hc.1 (by omega) (by omega) hp hdl hnd2 hw fun a b h' H' => ⟨a, b, H'⟩
    rintro - h3 ⟨a, b, H3⟩
    refine ⟨s, rfl, wa, (H3.box 2 rfl).cell rfl, ?_⟩
    refine (H3.seq 3 rfl fun _ => rfl).getH D[i].toNat (by omega) (by simp; omega) ?_
    rw [List.getElem_set_self]
    refine H3.set C_ok 0 rfl (fun _ => rfl) rfl i rfl (by simp [zeroB]; omega) 1 rfl rfl rfl fun h4 H4 => ?_
    have H5 := (H4.freeze 0 rfl fun _ => rfl).pool 5 0 (by decide) rfl rfl
    have H6 := (H5.freeze 1 rfl fun _ => rfl).pool 5 1 (by decide) rfl rfl
    refine ⟨(i + 1, wr.set D[i].toNat a, mr.set D[i].toNat b, _), by dsimp only; rw [Go.Vc.wrap_small _ (by omega) (by omega)]; rfl, ⟨by dsimp only; omega, H6.selT 6 [2, 3, 4, 5], ?_⟩, by dsimp only; omega⟩
    dsimp only
    have e1 : D.take (i + 1) = D.take i ++ [D[i]] := take_snoc _ _ (by omega)
    have e2 : (D.take i).length = i := by simp; omega
    rw [e1, deadB_snoc, e2]
    exact T2.step D[i].toNat a b (unitB nd i) (zeroB w)
  have hie : i = D.length := by omega
  subst hie
  rw [List.take_length] at T2 hdb hwrl hmrl
  refine ⟨s, rfl, st, (H2.box 0 rfl).cell rfl, ?_⟩
  have hstl := (hS.at [_, _, _, _] H2).steps.len
  refine loop_inv (fun t : Nat × List Sl × List Sl × List (Sl × Row) => (t.1 : Int)) (fun t h' => t.1 ≤ ST.length ∧ SpB B h0 h' (Told s f p v r st dd lf wa mo t.2.1 t.2.2.1 t.2.2.2 ++ As) ∧ ToldIs pool t.2.2.2 t.2.1 t.2.2.1 ((ST.take t.1).foldl (stepW R nd) (deadB n nd w D)).1 ((ST.take t.1).foldl (stepW R nd) (deadB n nd w D)).2) (fun t => ST.length - t.1)
    (0, wr, mr, pl) rfl ⟨by simp, H2, T2⟩ ?_
  clear hwrl hmrl T2 H2 hi e
  rintro ⟨i, wr, mr, pl⟩ h3 ⟨hi, H3, T3⟩
  dsimp only at *
  obtain ⟨dk, -⟩ := dead_ok (nd := nd) (w := w) hD hDn D.length (Nat.le_refl _)
  rw [List.take_length] at dk
  have hgt := goodR_app (l1 := ST.take i) (l2 := ST.drop i) (by rw [List.take_append_drop]; exact hg)
  obtain ⟨wok, -⟩ := steps_ok hR hgt.1 dk
  obtain ⟨W, hW⟩ : ∃ W, W = ((ST.take i).foldl (stepW R nd) (deadB n nd w D)).1 := ⟨_, rfl⟩
  obtain ⟨M, hM⟩ : ∃ M, M = ((ST.take i).foldl (stepW R nd) (deadB n nd w D)).2 := ⟨_, rfl⟩
  have hWM : (ST.take i).foldl (stepW R nd) (deadB n nd w D) = (W, M) := by rw [hW, hM]
  have wok' : WOk n nd w (fun c => c ∈ D ∨ ∃ j, (j, c) ∈ ST.take i) W M := by rw [hW, hM]; exact wok
  rw [← hW, ← hM] at T3
  clear wok hW hM
  have hWl := wok'.wl; have hMl := wok'.ml
  have hwrl := T3.way.1; have hmrl := T3.more.1
  refine br_dec (fun e => ?_) (fun e => ?_)
  · have hi' : i < ST.length := by omega
    have hg2 := hgt.2
    rw [List.drop_eq_getElem_cons hi'] at hg2
    obtain ⟨row, col, hsc⟩ : ∃ row col, ST[i] = (row, col) := ⟨_, _, rfl⟩
    rw [hsc] at hg2
    obtain ⟨g1, g2, g3, g4, -⟩ := hg2
    have hrow : row.toNat < R.length := by have := g1.2; rw [List.length_map] at this; omega
    obtain ⟨e', he'⟩ : ∃ e', e' = R[row.toNat] := ⟨_, rfl⟩
    have er : R.getD row.toNat ([], []) = e' := by rw [List.getD_eq_getElem?_getD, List.getElem?_eq_getElem hrow, he']; rfl
    have er' : (R.map Prod.fst).getD row.toNat [] = e'.1 := by rw [List.getD_eq_getElem?_getD, List.getElem?_map, List.getElem?_eq_getElem hrow, he']; rfl
    rw [er'] at g3 g4
    have hok := hR e' (he' ▸ List.getElem_mem hrow)
    have hel := hRl e' (he' ▸ List.getElem_mem hrow)
    have hcr := hok.cols col g3
    have G3 := hS.at [_, _, _, _] H3
    have hF := G3.rest.2.1
    refine G3.steps.getk (g := stepv) i rfl hi' ST[i] rfl ?_
    rw [hsc]
    refine H3.allocP C_ok rfl fun a50 h4 P4 H4 => ?_
    have H4 := H4.front1
    refine H4.storeAll C_ok 0 rfl rfl (stepv (row, col)) rfl rfl rfl rfl fun h5 H5 => ?_
    have hrr : row.toNat < rr.length := by rw [hF]; exact hrow
    obtain ⟨y, hy⟩ : ∃ y, y = rr[row.toNat] := ⟨_, rfl⟩
    have hrowE : ∀ {h'}, RdF EltQ 2 qv h' r rr R → EltQ.p h' (fun b => b < h'.size) y e' := fun hh => by rw [hy, he']; exact Fix.row hh hrow
    refine join_cut (fun a' h' => SpB B h0 h' (BoxA a' T_api_Eq (qv y) :: BoxA a50 T_api_Step (stepv (row, col)) :: (Told s f p v r st dd lf wa mo wr mr pl ++ As))) ?_ ?_
    · have hb5 := H5.box 1 rfl
      have G5 := hS.at [_, _, _, _, _] H5
      refine ⟨s, rfl, r, hb5.cell rfl, row, (H5.box 0 rfl).cell0 rfl, ?_⟩
      obtain ⟨a54, ha, x, hc, rfl⟩ := G5.rest.1.getk (g := qv) (i := row) row.toNat (by omega) hrr y (by rw [hy]) (K := fun x => x = y) rfl
      refine ⟨a54, ha, _, hc, ?_⟩
      refine H5.allocP C_ok rfl fun a56 h6 P6 H6 => ⟨⟨held_up hc.1 P6, held_up hc.2.1 P6, held_up ((H5.box 0 rfl).cell0 rfl) P6, held_up (hb5.cell rfl) P6, trivial⟩, ?_⟩
      have H6 := H6.front1
      refine H6.storeAll C_ok 0 rfl rfl (qv x) rfl rfl rfl rfl fun h7 H7 => ⟨trivial, H7⟩
    intro a56 h7 H7
    refine join_cut (fun t h' => SpB B h0 h' (RA t.1 (zeroB nd) :: RA t.2 e'.2 :: BoxA a56 T_api_Eq (qv y) :: BoxA a50 T_api_Step (stepv (row, col)) :: (Told s f p v r st dd lf wa mo wr mr pl ++ As))) ?_ ?_
    · have hb7 := H7.box 0 rfl
      refine ⟨y.2, hb7.cell rfl, ?_⟩
      exact two_rows (L := [(a56.add 1, .slice y.2.ptr y.2.len y.2.cap)]) (K := fun a b h' => Held.ok [] h' ∧ SpB B h0 h' (RA a (zeroB nd) :: RA b e'.2 :: BoxA a56 T_api_Eq (qv y) :: BoxA a50 T_api_Step (stepv (row, col)) :: (Told s f p v r st dd lf wa mo wr mr pl ++ As))) y.2 e'.2 nd _ H7 (by rw [hdl]) hnd2 (by rw [hok.len]; exact hw) ⟨hb7.cell rfl, trivial⟩ (L2 := []) trivial (St.mk' fun h' H' => (hrowE (hS.at [_, _, _, _, _, _] H').rest).2) fun a b h' _ H' => ⟨trivial, H'⟩
    rintro ⟨way, more⟩ h8 H8
    dsimp only at H8
    refine ⟨y.1, (H8.box 2 rfl).cell0 rfl, ?_⟩
    have hyl := (hrowE (hS.at [_, _, _, _, _, _, _, _] H8).rest).1.len
    let F : Nat → List Int := fun j => (e'.1.take j).filter fun c => !decide (c = col)
    refine loop_inv (fun j : Nat => (j : Int)) (fun j h' => j ≤ e'.1.length ∧ SpB B h0 h' (RA way (addC W (zeroB nd) (F j)) :: RA more (addC M e'.2 (F j)) :: BoxA a56 T_api_Eq (qv y) :: BoxA a50 T_api_Step (stepv (row, col)) :: (Told s f p v r st dd lf wa mo wr mr pl ++ As))) (fun j => e'.1.length - j) 0 rfl ⟨by omega, by simpa [F, addC] using H8⟩ ?_
    rintro j h9 ⟨hj, H9⟩
    have told : ∀ c ∈ F j, (rowB W c.toNat).length = nd ∧ (rowB M c.toNat).length = w := fun c hc => by
      have hc' := List.mem_filter.1 hc
      have hm := List.mem_of_mem_take hc'.1
      exact wok'.rw_ c (g4 c hm (by simpa using hc'.2)) (hok.cols c hm).1 (hok.cols c hm).2
    have lenW : (addC W (zeroB nd) (F j)).length = nd := addC_len (by simp [zeroB]) fun c hc => (told c hc).1
    have lenM : (addC M e'.2 (F j)).length = w := addC_len hok.len fun c hc => (told c hc).2
    refine br_dec (fun e2 => ?_) (fun e2 => ?_)
    · have hj' : j < e'.1.length := by omega
      have hcm := hok.cols _ (List.getElem_mem hj')
      refine (hrowE (hS.at [_, _, _, _, _, _, _, _] H9).rest).1.get1 j rfl hj' _ rfl ?_
      refine ⟨col, (H9.box 3 rfl).cell rfl, ?_⟩
      refine br_ne (fun hne => ?_) (fun heq => ?_)
      · have tc := wok'.rw_ e'.1[j] (g4 _ (List.getElem_mem hj') hne) hcm.1 hcm.2
        refine (sadd_spec s f 1 e'.1[j] way more wa mo _ _ wr mr W M H9 (St.mk' fun h' H' => ?_) hcm.1 (by omega) (by omega) (by rw [tc.1, lenW]) (by rw [tc.2, lenM]) (by omega) (by omega)).mono ?_
        · exact SolvRd.of (H'.box 2 rfl) (hS.at [_, _, _, _, _, _] H').field (H'.poolSeq2 3 5 rfl rfl T3.way) (H'.poolSeq2 4 5 rfl rfl T3.more)
        rintro _ h10 ⟨rfl, H10⟩
        have e3 : F (j + 1) = F j ++ [e'.1[j]] := by
          simp only [F]; rw [filter_take _ _ hj']; simp [hne]
        exact ⟨(), rfl, j + 1, by rw [Go.Vc.wrap_small _ (by omega) (by omega)]; rfl, ⟨by omega, by rw [e3, addC_snoc, addC_snoc]; exact H10⟩, by omega⟩
      · have e3 : F (j + 1) = F j := by
          simp only [F]; rw [filter_take _ _ hj']; simp [heq]
        exact ⟨j + 1, by rw [Go.Vc.wrap_small _ (by omega) (by omega)]; rfl, ⟨by omega, by rw [e3]; exact H9⟩, by omega⟩
    · have hje : j = e'.1.length := by omega
      subst hje
      have hb9 := H9.box 3 rfl
      have hs9 := H9.box 4 rfl
      refine ⟨s, rfl, wa, hs9.cell rfl, col, hb9.cell rfl, s, rfl, mo, hs9.cell rfl, col, hb9.cell rfl, ?_⟩
      refine H9.set C_ok 5 rfl (fun _ => rfl) rfl col.toNat (by omega) (by omega) way rfl rfl rfl fun h10 H10 => ⟨⟨(H10.box 3 rfl).cell rfl, trivial⟩, ?_⟩
      refine H10.set C_ok 6 rfl (fun _ => rfl) rfl col.toNat (by omega) (by omega) more rfl rfl rfl fun h11 H11 => ⟨trivial, ?_⟩
      have H12 := (H11.freeze 0 rfl fun _ => rfl).pool 7 0 (by decide) rfl rfl
      have H13 := (H12.freeze 1 rfl fun _ => rfl).pool 7 1 (by decide) rfl rfl
      refine ⟨(i + 1, wr.set col.toNat way, mr.set col.toNat more, _), by dsimp only; rw [Go.Vc.wrap_small _ (by omega) (by omega)]; rfl, ⟨by dsimp only; omega, H13.selT 8 [4, 5, 6, 7], ?_⟩, by dsimp only; omega⟩
      dsimp only
      rw [take_snoc _ _ hi', List.foldl_append, hWM, hsc]
      have e3 : [(row, col)].foldl (stepW R nd) (W, M) = (W.set col.toNat (addC W (zeroB nd) (F e'.1.length)), M.set col.toNat (addC M e'.2 (F e'.1.length))) := by
        simp only [List.foldl_cons, List.foldl_nil, stepW, er, F, List.take_length]
      rw [e3]
      exact T3.step col.toNat way more _ _
  · have hie : i = ST.length := by omega
    subst hie
    rw [List.take_length] at hWM
    exact ⟨rfl, wa, mo, wr, mr, pl, H3, by rw [hWM]; exact T3⟩
end
end Go.Proofs.YtkcplnfomahleaaGreatDoor
namespace Go.Proofs.YtkcplnfomahleaaGreatDoor
open Go Go.Vc Go.Proofs Wl
set_option maxRecDepth 100000
def fillP (nd : Nat) (known : List Bool) (vals : Mat) (s : Mat × Mat) (i : Nat) : Mat × Mat :=
  (s.1.mapIdx fun c r => if c < i ∧ known.getD c false = true then zeroB nd else r, s.2.mapIdx fun c r => if c < i ∧ known.getD c false = true then rowB vals c else r)
theorem fillP_zero (nd : Nat) (known : List Bool) (vals : Mat) (s : Mat × Mat) : fillP nd known vals s 0 = s := by
  unfold fillP
  refine Prod.ext ?_ ?_ <;> refine List.ext_getElem (by simp) fun i h1 h2 => ?_ <;> simp
theorem fillP_all (nd : Nat) (known : List Bool) (vals : Mat) (s : Mat × Mat) {n : Nat} (h1 : s.1.length = n) (h2 : s.2.length = n) : fillP nd known vals s n = fillB nd known vals s := by
  unfold fillP fillB
  refine Prod.ext ?_ ?_ <;> refine List.ext_getElem (by simp) fun i h1 h2 => ?_ <;> simp at h1 <;> simp [show i < n by omega]
theorem fillP_yes (nd : Nat) (known : List Bool) (vals : Mat) (s : Mat × Mat) {i : Nat} (hk : known.getD i false = true) : fillP nd known vals s (i + 1) = ((fillP nd known vals s i).1.set i (zeroB nd), (fillP nd known vals s i).2.set i (rowB vals i)) := by
  unfold fillP
  refine Prod.ext ?_ ?_ <;> refine List.ext_getElem (by simp) fun j h1 h2 => ?_ <;> simp only [List.getElem_mapIdx, List.getElem_set] <;> by_cases hij : i = j
  · subst hij; rw [if_pos ⟨by omega, hk⟩, if_pos rfl]
  · rw [if_neg hij]; congr 1; simp only [eq_iff_iff]; constructor <;> rintro ⟨a, b⟩ <;> exact ⟨by omega, b⟩
  · subst hij; rw [if_pos ⟨by omega, hk⟩, if_pos rfl]
  · rw [if_neg hij]; congr 1; simp only [eq_iff_iff]; constructor <;> rintro ⟨a, b⟩ <;> exact ⟨by omega, b⟩
theorem fillP_no (nd : Nat) (known : List Bool) (vals : Mat) (s : Mat × Mat) {i : Nat} (hk : known.getD i false = false) : fillP nd known vals s (i + 1) = fillP nd known vals s i := by
  have key : ∀ j, (j < i + 1 ∧ known.getD j false = true) ↔ (j < i ∧ known.getD j false = true) := fun j => by
    constructor
    · rintro ⟨a, b⟩
      by_cases hij : j = i
      · subst hij; rw [hk] at b; cases b
      · exact ⟨by omega, b⟩
    · rintro ⟨a, b⟩; exact ⟨by omega, b⟩
  unfold fillP
  simp only [key]
section
variable {B : Blocks} {h0 h : Heap} {As : List HP}
theorem fill_spec (s f : Addr) (p : Int × Int × Int) (v r st dd lf wa mo : Sl) (vr wr mr : List Sl) (pl : List (Sl × Row)) (known : List Bool) (V W M : Mat) (n nd : Nat) (H : SpB B h0 h (Told s f p v r st dd lf wa mo wr mr pl ++ HA v vr :: As)) (hn : n ≤ 64) (hdl : dd.len = nd) (hnd : nd ≤ 64) (hT : ToldIs pl pl wr mr W M) (hV : inPool pl id vr V) (hvl : V.length = n) (hWl : W.length = n) (hMl : M.length = n)
    (hk : ∀ (c : Nat) (hc : c < vr.length), vr[c].ptr.isNone = !(known.getD c false)) :
    Meets Tryz.prog decode_solver_fill_id #[.pointer (some s)] h fun v' h' => v' = .tuple #[] ∧ ∃ wr mr pl', SpB B h0 h' (Told s f p v r st dd lf wa mo wr mr pl' ++ HA v vr :: As) ∧ ToldIs pl pl' wr mr (fillB nd known V (W, M)).1 (fillB nd known V (W, M)).2 := by
  refine decode_solver_fill_run (some s) ?_
  unfold decode_solver_fill_m
  have hvrl := hV.1
  have hvlen : v.len = n := by rw [(H.own 4 rfl).len]; omega
  refine ⟨s, rfl, v, (H.box 0 rfl).cell rfl, ?_⟩
  refine loop_inv (fun t : Nat × List Sl × List Sl × List (Sl × Row) => (t.1 : Int)) (fun t h' => t.1 ≤ n ∧ SpB B h0 h' (Told s f p v r st dd lf wa mo t.2.1 t.2.2.1 t.2.2.2 ++ HA v vr :: As) ∧ ToldIs pl t.2.2.2 t.2.1 t.2.2.1 (fillP nd known V (W, M) t.1).1 (fillP nd known V (W, M) t.1).2) (fun t => n - t.1) (0, wr, mr, pl) rfl ⟨by omega, H, by rw [fillP_zero]; exact hT⟩ ?_
  rintro ⟨i, wr, mr, pl'⟩ h1 ⟨hi, H1, T1⟩
  dsimp only at *
  have hl1 : (fillP nd known V (W, M) i).1.length = n := by simp [fillP, hWl]
  have hl2 : (fillP nd known V (W, M) i).2.length = n := by simp [fillP, hMl]
  have hwrl := T1.way.1; have hmrl := T1.more.1
  refine br_dec (fun e => ?_) (fun e => ?_)
  · have hi' : i < n := by omega
    refine (H1.seq 4 rfl fun _ => rfl).getH i rfl (by omega) ?_
    have hki := hk i (by omega)
    refine br_not (fun e2 => ?_) (fun e2 => ?_)
    · have hkn : known.getD i false = true := by rw [hki] at e2; simpa using e2
      have hb1 := H1.box 0 rfl
      refine ⟨s, rfl, wa, hb1.cell rfl, s, rfl, mo, hb1.cell rfl, s, rfl, dd, show cellOf h1 (s.add 7) = _ from hb1.cell rfl, ?_⟩
      refine H1.makeP C_ok u8v eU8 (by decide) 0 rfl rfl nd nd (by rw [hdl]) (by rw [hdl]) (Nat.le_refl _) (by omega) fun a h2 _ P2 H2 => ?_
      have H2 := H2.front1
      have hb2 := H2.box 1 rfl
      refine ⟨⟨show cellOf h2 (s.add 7) = _ from hb2.cell rfl, hb2.cell rfl, hb2.cell rfl, trivial⟩, ?_⟩
      refine H2.set C_ok 2 rfl (fun _ => rfl) rfl i rfl (by omega) a rfl rfl rfl fun h3 H3 => ⟨trivial, ?_⟩
      refine H3.set C_ok 3 rfl (fun _ => rfl) rfl i rfl (by omega) (vr[i]'(by omega)) rfl rfl rfl fun h4 H4 => ⟨trivial, ?_⟩
      have H5 := (H4.freeze 0 rfl fun _ => rfl).pool 4 0 (by decide) rfl rfl
      refine ⟨(i + 1, wr.set i a, mr.set i (vr[i]'(by omega)), _), by dsimp only; rw [Go.Vc.wrap_small _ (by omega) (by omega)]; rfl, ⟨by dsimp only; omega, H5.selT 5 [1, 2, 3, 4], ?_⟩, by dsimp only; omega⟩
      dsimp only
      rw [fillP_yes nd known V (W, M) hkn]
      have hm : ((vr[i]'(by omega)), rowB V i) ∈ pl := by
        have := hV.get (i := i) (by omega)
        rw [row_get (by omega)]; exact this
      exact ⟨fun x hx => List.mem_cons_of_mem _ (T1.sub x hx), (T1.way.mono fun x hx => List.mem_cons_of_mem _ hx).set i (by simp [zeroB]), (T1.more.mono fun x hx => List.mem_cons_of_mem _ hx).set i (List.mem_cons_of_mem _ (T1.sub _ hm))⟩
    · have hkn : known.getD i false = false := by rw [hki] at e2; simpa using e2
      exact ⟨(i + 1, wr, mr, pl'), by dsimp only; rw [Go.Vc.wrap_small _ (by omega) (by omega)]; rfl, ⟨by dsimp only; omega, H1, by dsimp only; rw [fillP_no nd known V (W, M) hkn]; exact T1⟩, by dsimp only; omega⟩
  · have hie : i = n := by omega
    subst hie
    exact ⟨rfl, wr, mr, pl', H1, by rw [← fillP_all nd known V (W, M) hWl hMl]; exact T1⟩
def putP (nd : Nat) (known : List Bool) (vals W M D : Mat) (i : Nat) : Mat := vals.mapIdx fun c r => if c < i ∧ known.getD c false = false then addR D (rowB W c) (rowB M c) nd else r
theorem putP_zero (nd : Nat) (known : List Bool) (vals W M D : Mat) : putP nd known vals W M D 0 = vals := by
  unfold putP; refine List.ext_getElem (by simp) fun i h1 h2 => ?_; simp
theorem putP_all (nd : Nat) (known : List Bool) (vals W M D : Mat) {n : Nat} (h1 : vals.length = n) : putP nd known vals W M D n = putB nd known vals W M D := by
  unfold putP putB
  refine List.ext_getElem (by simp) fun i h1 h2 => ?_
  simp at h1
  simp only [List.getElem_mapIdx]
  cases hk : known.getD i false
  · rw [if_pos ⟨by omega, rfl⟩, if_neg (by simp)]
  · rw [if_neg (by simp), if_pos rfl]
theorem putP_yes (nd : Nat) (known : List Bool) (vals W M D : Mat) {i : Nat} (hk : known.getD i false = true) : putP nd known vals W M D (i + 1) = putP nd known vals W M D i := by
  have key : ∀ j, (j < i + 1 ∧ known.getD j false = false) ↔ (j < i ∧ known.getD j false = false) := fun j => by
    constructor
    · rintro ⟨a, b⟩
      by_cases hij : j = i
      · subst hij; rw [hk] at b; cases b
      · exact ⟨by omega, b⟩
    · rintro ⟨a, b⟩; exact ⟨by omega, b⟩
  unfold putP; simp only [key]
theorem putP_no (nd : Nat) (known : List Bool) (vals W M D : Mat) {i : Nat} (hk : known.getD i false = false) : putP nd known vals W M D (i + 1) = (putP nd known vals W M D i).set i (addR D (rowB W i) (rowB M i) nd) := by
  unfold putP
  refine List.ext_getElem (by simp) fun j h1 h2 => ?_
  simp only [List.getElem_mapIdx, List.getElem_set]
  by_cases hij : i = j
  · subst hij; rw [if_pos ⟨by omega, hk⟩, if_pos rfl]
  · rw [if_neg hij]; congr 1; simp only [eq_iff_iff]; constructor <;> rintro ⟨a, b⟩ <;> exact ⟨by omega, b⟩
theorem put_spec (s f : Addr) (p : Int × Int × Int) (v r st dd lf wa mo dead : Sl) (vr wr mr dr : List Sl) (pl : List (Sl × Row)) (known : List Bool) (V W M D : Mat) (n nd w : Nat) (H : SpB B h0 h (Told s f p v r st dd lf wa mo wr mr pl ++ HA v vr :: As)) (hS : St B h0 As fun h => FieldB h f ∧ Seq2 h (fun b => b < h.size) dead 1 u8v D dr) (hn : n ≤ 64) (hw : w ≤ 2 ^ 20) (hnd : nd ≤ 64) (hT : ToldIs pl pl wr mr W M) (hV : inPool pl id vr V) (hvl : V.length = n) (hWl : W.length = n) (hMl : M.length = n)
    (hlen : ∀ c, c < n → (rowB W c).length = nd ∧ (rowB M c).length = w) (hDl : D.length = nd) (hDe : evenB w D) (hk : ∀ (c : Nat) (hc : c < vr.length), vr[c].ptr.isNone = !(known.getD c false)) :
    Meets Tryz.prog decode_solver_put_id #[.pointer (some s), .slice dead.ptr dead.len dead.cap] h fun v' h' => v' = .tuple #[] ∧ ∃ vr' pl', SpB B h0 h' (Told s f p v r st dd lf wa mo wr mr pl' ++ HA v vr' :: As) ∧ inPool pl' id vr' (putB nd known V W M D) := by
  refine decode_solver_put_run (some s) dead ?_
  unfold decode_solver_put_m
  have hvrl := hV.1
  have hvlen : v.len = n := by rw [(H.own 4 rfl).len]; omega
  have hwrl := hT.way.1; have hmrl := hT.more.1
  refine ⟨s, rfl, v, (H.box 0 rfl).cell rfl, ?_⟩
  refine loop_inv (fun t : Nat × List Sl × List (Sl × Row) => (t.1 : Int)) (fun t h' => t.1 ≤ n ∧ SpB B h0 h' (Told s f p v r st dd lf wa mo wr mr t.2.2 ++ HA v t.2.1 :: As) ∧ inPool t.2.2 id t.2.1 (putP nd known V W M D t.1) ∧ (∀ x ∈ pl, x ∈ t.2.2) ∧ ∀ (c : Nat) (hc : c < t.2.1.length), t.1 ≤ c → t.2.1[c].ptr.isNone = !(known.getD c false)) (fun t => n - t.1) (0, vr, pl) rfl ⟨by omega, H, by rw [putP_zero]; exact hV, fun _ h => h, fun c hc _ => hk c hc⟩ ?_
  rintro ⟨i, vr, pl'⟩ h1 ⟨hi, H1, T1, hsub, hk1⟩
  dsimp only at *
  have hpl : (putP nd known V W M D i).length = n := by simp [putP, hvl]
  have hvr1 := T1.1
  refine br_dec (fun e => ?_) (fun e => ?_)
  · have hi' : i < n := by omega
    have hb1 := H1.box 0 rfl
    refine ⟨s, rfl, v, hb1.cell rfl, ?_⟩
    refine (H1.seq 4 rfl fun _ => rfl).getH i rfl (by omega) ?_
    have hki := hk1 i (by omega) (Nat.le_refl _)
    refine br_not (fun e2 => ?_) (fun e2 => ?_)
    · have hkn : known.getD i false = true := by rw [hki] at e2; simpa using e2
      exact ⟨(i + 1, vr, pl'), by dsimp only; rw [Go.Vc.wrap_small _ (by omega) (by omega)]; rfl, ⟨by dsimp only; omega, H1, by dsimp only; rw [putP_yes nd known V W M D hkn]; exact T1, hsub, fun c hc h => hk1 c hc (by dsimp only at h; omega)⟩, by dsimp only; omega⟩
    have hkn : known.getD i false = false := by rw [hki] at e2; simpa using e2
    have hli := hlen i hi'
    have hmM : ((mr[i]'(by omega)), rowB M i) ∈ pl' := by
      have := (hT.more.mono hsub).get (i := i) (by omega)
      rw [row_get (by omega)]; exact this
    have hmW : ((wr[i]'(by omega)), rowB W i) ∈ pl' := by
      have := (hT.way.mono hsub).get (i := i) (by omega)
      rw [row_get (by omega)]; exact this
    refine ⟨s, rfl, mo, hb1.cell rfl, ?_⟩
    refine (H1.seq 2 rfl fun _ => rfl).getH i rfl (by omega) ?_
    refine (cloneB_spec _ (rowB M i) h1 (H1.poolRd 3 rfl hmM) (by omega)).mono ?_
    rintro _ h2 ⟨b, rfl, R2⟩
    have H2 := H1.comp1 R2
    have hb2 := H2.box 1 rfl
    refine ⟨b, rfl, s, rfl, wa, hb2.cell rfl, ?_⟩
    refine (H2.seq 2 rfl fun _ => rfl).getH i rfl (by omega) ?_
    have hwlen := (H2.poolRd 4 rfl hmW).len
    refine loop_inv (fun j : Nat => (j : Int)) (fun j h' => j ≤ nd ∧ SpB B h0 h' (RA b (addR D (rowB W i) (rowB M i) j) :: (Told s f p v r st dd lf wa mo wr mr pl' ++ HA v vr :: As))) (fun j => nd - j) 0 rfl ⟨by omega, H2⟩ ?_
    rintro j h3 ⟨hj, H3⟩
    refine br_dec (fun e3 => ?_) (fun e3 => ?_)
    · have hj' : j < nd := by omega
      have hjW : j < (rowB W i).length := by omega
      refine (H3.poolRd 4 rfl hmW).get1 j rfl hjW _ rfl ?_
      obtain ⟨S1, S2⟩ := hS.at [_, _, _, _, _, _] H3
      have hdr := S2.len
      refine S2.top.getH j rfl (by omega) ?_
      have hDj : (D[j]'(by omega)).length = w := hDe _ (List.getElem_mem _)
      have hcol : (rowB W i)[j]'hjW = colB (rowB W i) j := by rw [colB, List.getD_eq_getElem?_getD, List.getElem?_eq_getElem hjW]; rfl
      have hal : (addR D (rowB W i) (rowB M i) j).length = w := addR_len _ hli.2 fun k hk => even_row hDe (by omega)
      rw [hcol]
      refine axpy_loop s f (colB (rowB W i) j) (dr[j]'(by omega)) b (D[j]'(by omega)) _ H3 (St.mk' fun h' H' => ?_) (by rw [hDj, hal]) (by omega) fun h4 H4 => ?_
      · obtain ⟨q1, q2⟩ := hS.at [_, _, _, _, _] H'
        exact ⟨(H'.box 0 rfl).cell0 rfl, q1, q2.row _ _ _ (List.getElem?_eq_getElem _) (List.getElem?_eq_getElem _)⟩
      · refine ⟨j + 1, by rw [Go.Vc.wrap_small _ (by omega) (by omega)]; rfl, ⟨by omega, ?_⟩, by omega⟩
        rw [addR, row_get (m := D) (i := j) (by omega)]; exact H4
    · have hjn : j = nd := by omega
      subst hjn
      refine ⟨s, rfl, v, (H3.box 1 rfl).cell rfl, ?_⟩
      refine H3.set C_ok 5 rfl (fun _ => rfl) rfl i rfl (by omega) b rfl rfl rfl fun h4 H4 => ?_
      have H5 := (H4.freeze 0 rfl fun _ => rfl).pool 4 0 (by decide) rfl rfl
      refine ⟨(i + 1, vr.set i b, _), by dsimp only; rw [Go.Vc.wrap_small _ (by omega) (by omega)]; rfl, ⟨by dsimp only; omega, H5.selT 6 [1, 2, 3, 4, 5], ?_, fun x hx => List.mem_cons_of_mem _ (hsub x hx), fun c hc h => ?_⟩, by dsimp only; omega⟩
      · dsimp only
        rw [putP_no j known V W M D hkn]
        exact (T1.mono fun x hx => List.mem_cons_of_mem _ hx).set i (by simp)
      · dsimp only at hc h ⊢
        rw [List.getElem_set_ne (by omega)]
        exact hk1 c (by simpa using hc) (by omega)
  · have hie : i = n := by omega
    subst hie
    exact ⟨rfl, vr, pl', H1, by rw [← putP_all nd known V W M D hvl]; exact T1⟩
end
end Go.Proofs.YtkcplnfomahleaaGreatDoor
namespace Go.Proofs.YtkcplnfomahleaaGreatDoor
open Go Go.Vc Go.Proofs Wl
set_option maxRecDepth 100000
section
variable {B : Blocks} {h0 h : Heap} {As : List HP}
abbrev MA (s : Sl) (m : Mat) : HP := RowsA T_sl_uint8 s 1 u8v m
abbrev EltC : Elt Sl Row := EltAnd (EltS 1 u8v) fun r _ => r.len ≤ r.cap
abbrev CA (s : Sl) (m : Mat) : HP := RowsE T_sl_uint8 s 1 slv EltC m
theorem SpB.ownCap {e : Nat} {s : Sl} {l : Row} (H : SpB B h0 h As) (i : Nat) (hi : As[i]? = some (OwnA e s 1 u8v l)) : SpB B h0 h (As.set i (EA EltC s l)) :=
  H.weak i hi fun _ ⟨a, b⟩ => ⟨a.seq (fun _ => rfl) b, a.cap⟩
theorem dense_spec (s f : Addr) (p : Int × Int × Int) (v r st dd lf wa mo : Sl) (wr mr : List Sl) (pl : List (Sl × Row)) (rr : List (Sl × Sl)) (R : List EqL) (ST : List (Int × Int)) (D L : List Int) (W M : Mat) (n nd w : Nat) (H : SpB B h0 h (Told s f p v r st dd lf wa mo wr mr pl ++ As)) (hS : St B h0 As fun h => Given h f r st dd lf rr R ST D L)
    (hn : n = p.1.toNat + p.2.1.toNat) (hp : p.2.2 = w) (hw : w ≤ 2 ^ 20) (hmay : mayP p = true) (hnd : D.length = nd) (hnd2 : nd ≤ 64) (hR : ∀ e ∈ R, EqOk n w e) (hRl : ∀ e ∈ R, e.1.length ≤ 2 ^ 20) (hL : ∀ i ∈ L, 0 ≤ i ∧ i < (R.length : Int)) (hLl : L.length ≤ 2 ^ 20) (hT : ToldIs pl pl wr mr W M) (hWl : W.length = n) (hMl : M.length = n)
    (hlen : ∀ c, c < n → (rowB W c).length = nd ∧ (rowB M c).length = w) :
    Meets Tryz.prog decode_solver_dense_id #[.pointer (some s)] h fun v' h' => ∃ a b : Sl, v' = .tuple #[.slice a.ptr a.len a.cap, .slice b.ptr b.len b.cap] ∧ SpB B h0 h' (MA a (denseA n nd R W L (aheadRows p.1.toNat p.2.1.toNat)) :: CA b (denseB n w R M L (aheadRows p.1.toNat p.2.1.toNat)) :: (Told s f p v r st dd lf wa mo wr mr pl ++ As)) := by
  refine decode_solver_dense_run (some s) ?_
  unfold decode_solver_dense_m
  have hb := H.box 0 rfl
  have hdl : dd.len = nd := by rw [(hS.at [_, _, _, _] H).dead.len, hnd]
  have hmp := (mayP_iff p).1 hmay
  have hwrl := hT.way.1; have hmrl := hT.more.1
  refine ⟨s, rfl, dd, show cellOf h (s.add 7) = _ from hb.cell rfl, s, rfl, lf, show cellOf h (s.add 8) = _ from hb.cell rfl, ?_⟩
  have hll := (hS.at [_, _, _, _] H).left.len
  have solv : ∀ {h' : Heap} {Cs : List HP}, SpB B h0 h' (Cs ++ (Told s f p v r st dd lf wa mo wr mr pl ++ As)) → SpB B h0 h' (Told s f p v r st dd lf wa mo wr mr pl ++ As) := fun {h' Cs} H' => H'.take Cs.length fun i A hi => by
    rw [List.getElem?_append_right (by omega), Nat.add_sub_cancel_left]; exact hi
  have SR : ∀ {h' : Heap}, SpB B h0 h' (Told s f p v r st dd lf wa mo wr mr pl ++ As) → SolvRd h' s f wa mo wr mr W M := fun H' => SolvRd.of (H'.box 0 rfl) (hS.at [_, _, _, _] H').field (H'.poolSeq2 1 3 rfl rfl hT.way) (H'.poolSeq2 2 3 rfl rfl hT.more)
  let rA : Int → Row := fun i => addC W (zeroB nd) (R.getD i.toNat ([], [])).1
  let rB : Int → Row := fun i => addC M (R.getD i.toNat ([], [])).2 (R.getD i.toNat ([], [])).1
  have H0 : SpB B h0 h (MA ⟨none, 0, 0⟩ [] :: CA ⟨none, 0, 0⟩ [] :: (Told s f p v r st dd lf wa mo wr mr pl ++ As)) := ((H.eNil T_sl_uint8 1 slv EltC).front1.rows0 T_sl_uint8 1 u8v).front1
  refine loop_inv (fun t : Nat × Sl × Sl => (t.2.1, t.2.2, (t.1 : Int))) (fun t h' => t.1 ≤ L.length ∧ SpB B h0 h' (MA t.2.1 ((L.take t.1).map rA) :: CA t.2.2 ((L.take t.1).map rB) :: (Told s f p v r st dd lf wa mo wr mr pl ++ As))) (fun t => L.length - t.1) (0, ⟨none, 0, 0⟩, ⟨none, 0, 0⟩) rfl ⟨by simp, H0⟩ ?_
  rintro ⟨i, a, b⟩ h1 ⟨hi, H1⟩
  dsimp only at *
  refine br_dec (fun e => ?_) (fun e => ?_)
  · have hi' : i < L.length := by omega
    have G1 := hS.at [_, _, _, _, _, _] H1
    refine G1.left.get1 i rfl hi' _ rfl ?_
    have hx := hL _ (List.getElem_mem hi')
    generalize hxe : L[i] = x at hx ⊢
    have hrow : x.toNat < R.length := by omega
    obtain ⟨e', he'⟩ : ∃ e', e' = R[x.toNat] := ⟨_, rfl⟩
    have er : R.getD x.toNat ([], []) = e' := by rw [List.getD_eq_getElem?_getD, List.getElem?_eq_getElem hrow, he']; rfl
    have hok := hR e' (he' ▸ List.getElem_mem hrow)
    have hel := hRl e' (he' ▸ List.getElem_mem hrow)
    have hF := G1.rest.2.1
    have hrr : x.toNat < rr.length := by rw [hF]; exact hrow
    obtain ⟨y, hy⟩ : ∃ y, y = rr[x.toNat] := ⟨_, rfl⟩
    have hrowE : ∀ {h'}, RdF EltQ 2 qv h' r rr R → EltQ.p h' (fun b => b < h'.size) y e' := fun hh => by rw [hy, he']; exact Fix.row hh hrow
    refine join_cut (fun t h' => SpB B h0 h' (RA t.1 (zeroB nd) :: RA t.2 e'.2 :: MA a ((L.take i).map rA) :: CA b ((L.take i).map rB) :: (Told s f p v r st dd lf wa mo wr mr pl ++ As))) ?_ ?_
    · have hb1 := H1.box 2 rfl
      refine ⟨s, rfl, r, hb1.cell rfl, ?_⟩
      obtain ⟨a10, ha, z, hc, rfl⟩ := G1.rest.1.getk (g := qv) (i := x) x.toNat (by omega) hrr y (by rw [hy]) (K := fun z => z = y) rfl
      refine ⟨a10, ha, z.2, hc.2.1, ?_⟩
      have hL5 : Held.ok [(s.add 5, .slice r.ptr r.len r.cap)] h1 := ⟨hb1.cell rfl, trivial⟩
      exact two_rows (L := [((a10.add (x.toNat * 2)).add 1, .slice z.2.ptr z.2.len z.2.cap), (s.add 5, .slice r.ptr r.len r.cap)]) (L2 := [(s.add 5, .slice r.ptr r.len r.cap)]) (K := fun a' b' h' => Held.ok [(s.add 5, .slice r.ptr r.len r.cap)] h' ∧ SpB B h0 h' (RA a' (zeroB nd) :: RA b' e'.2 :: MA a ((L.take i).map rA) :: CA b ((L.take i).map rB) :: (Told s f p v r st dd lf wa mo wr mr pl ++ As)))
        z.2 e'.2 nd _ H1 (by rw [hdl]) hnd2 (by rw [hok.len]; exact hw) ⟨hc.2.1, hL5⟩ hL5 (St.mk' fun h' H' => (hrowE (hS.at [_, _, _, _, _, _] H').rest).2) fun a b h' P H' => ⟨held_grow P hL5, H'⟩
    rintro ⟨way, more⟩ h2 H2
    dsimp only at H2
    have G2 := hS.at [_, _, _, _, _, _, _, _] H2
    refine ⟨s, rfl, r, (H2.box 4 rfl).cell rfl, ?_⟩
    obtain ⟨a19, ha, z, hc, rfl⟩ := G2.rest.1.getk (g := qv) (i := x) x.toNat (by omega) hrr y (by rw [hy]) (K := fun z => z = y) rfl
    refine ⟨a19, ha, z.1, hc.1, ?_⟩
    have hyl := (hrowE G2.rest).1.len
    refine loop_inv (fun j : Nat => (j : Int)) (fun j h' => j ≤ e'.1.length ∧ SpB B h0 h' (RA way (addC W (zeroB nd) (e'.1.take j)) :: RA more (addC M e'.2 (e'.1.take j)) :: MA a ((L.take i).map rA) :: CA b ((L.take i).map rB) :: (Told s f p v r st dd lf wa mo wr mr pl ++ As))) (fun j => e'.1.length - j) 0 rfl ⟨by omega, by simpa [addC] using H2⟩ ?_
    rintro j h3 ⟨hj, H3⟩
    have told : ∀ c ∈ e'.1.take j, (rowB W c.toNat).length = nd ∧ (rowB M c.toNat).length = w := fun c hc => by
      have hc' := hok.cols c (List.mem_of_mem_take hc)
      exact hlen c.toNat (by omega)
    have lenW : (addC W (zeroB nd) (e'.1.take j)).length = nd := addC_len (by simp [zeroB]) fun c hc => (told c hc).1
    have lenM : (addC M e'.2 (e'.1.take j)).length = w := addC_len hok.len fun c hc => (told c hc).2
    refine br_dec (fun e2 => ?_) (fun e2 => ?_)
    · have hj' : j < e'.1.length := by omega
      have hcm := hok.cols _ (List.getElem_mem hj')
      refine (hrowE (hS.at [_, _, _, _, _, _, _, _] H3).rest).1.get1 j rfl hj' _ rfl ?_
      have tc := hlen e'.1[j].toNat (by omega)
      refine (sadd_spec s f 1 e'.1[j] way more wa mo _ _ wr mr W M H3 (St.mk' fun h' H' => SR (solv (Cs := [_, _]) H')) hcm.1 (by omega) (by omega) (by rw [tc.1, lenW]) (by rw [tc.2, lenM]) (by omega) (by omega)).mono ?_
      rintro _ h4 ⟨rfl, H4⟩
      exact ⟨(), rfl, j + 1, by rw [Go.Vc.wrap_small _ (by omega) (by omega)]; rfl, ⟨by omega, by rw [take_snoc _ _ hj', addC_snoc, addC_snoc]; exact H4⟩, by omega⟩
    · have hje : j = e'.1.length := by omega
      subst hje
      rw [List.take_length] at H3
      have H4 := SpB.ownCap (H3.freeze 0 rfl fun _ => rfl) 1 rfl
      refine H4.rowPush C_ok 2 0 (by decide) rfl rfl eSlU8 (by simp; omega) fun a' h5 H5 => ?_
      refine H5.ePush C_ok 3 1 (by decide) rfl rfl eSlU8 rfl (by decide) (fun _ => rfl) one_sl rfl (by decide) (by simp; omega) fun b' h6 H6 => ?_
      refine ⟨(i + 1, a', b'), by dsimp only; rw [Go.Vc.wrap_small _ (by omega) (by omega)]; rfl, ⟨by dsimp only; omega, ?_⟩, by dsimp only; omega⟩
      dsimp only
      rw [take_snoc _ _ hi', List.map_append, List.map_append, hxe]
      have e3 : [x].map rA = [addC W (zeroB nd) e'.1] := by simp only [List.map_cons, List.map_nil, rA, er]
      have e4 : [x].map rB = [addC M e'.2 e'.1] := by simp only [List.map_cons, List.map_nil, rB, er]
      rw [e3, e4]
      exact H6.selT 8 [2, 3, 4, 5, 6, 7]
  have hie : i = L.length := by omega
  subst hie
  rw [List.take_length] at H1
  have hb1 := H1.box 2 rfl
  refine ⟨s, rfl, p, hb1.cells 1 _ rfl, (pre_Rows_spec p h1).mono ?_⟩
  rintro _ h2 ⟨q, rfl, R2⟩
  rw [hmay, if_pos rfl] at R2
  obtain ⟨ah, hah⟩ : ∃ ah, ah = aheadRows p.1.toNat p.2.1.toNat := ⟨_, rfl⟩
  have hahl : ah.length = p.2.1.toNat := by rw [hah]; simp [aheadRows]
  have hahe : ∀ x ∈ ah, x.length = n := fun x hx => by rw [hn]; exact ahead_even _ _ x (hah ▸ hx)
  rw [← hah] at R2 ⊢
  have H2 := (H1.comp1 R2).rowsE 0 rfl
  obtain ⟨qr, H2⟩ := H2.eFix 0 rfl fun _ => rfl
  have hql := (H2.fixRd 0 rfl).1.len
  have hqr := (H2.fixRd 0 rfl).2.1
  refine ⟨q, rfl, ?_⟩
  let rA2 : Row → Row := fun x => addR W x (zeroB nd) n
  let rB2 : Row → Row := fun x => addR M x (zeroB w) n
  refine loop_inv (fun t : Nat × Sl × Sl => (t.2.1, t.2.2, (t.1 : Int))) (fun t h' => t.1 ≤ ah.length ∧ SpB B h0 h' (FixA (EltS 1 u8v) 1 slv q qr ah :: MA t.2.1 (L.map rA ++ (ah.take t.1).map rA2) :: CA t.2.2 (L.map rB ++ (ah.take t.1).map rB2) :: (Told s f p v r st dd lf wa mo wr mr pl ++ As))) (fun t => ah.length - t.1) (0, a, b) rfl ⟨by simp, by simpa using H2⟩ ?_
  rintro ⟨i, a, b⟩ h3 ⟨hi, H3⟩
  dsimp only at *
  refine br_dec (fun e => ?_) (fun e => ?_)
  · have hi' : i < ah.length := by omega
    have hxl := hahe _ (List.getElem_mem hi')
    have F3 := H3.fixRd 0 rfl
    refine F3.1.getH i rfl (by omega) ?_
    have hyl : (qr[i]'(by omega)).len = n := by rw [(Fix.row F3 hi').len, hxl]
    refine join_cut (fun t h' => SpB B h0 h' (RA t.1 (zeroB nd) :: RA t.2 (zeroB w) :: FixA (EltS 1 u8v) 1 slv q qr ah :: MA a (L.map rA ++ (ah.take i).map rA2) :: CA b (L.map rB ++ (ah.take i).map rB2) :: (Told s f p v r st dd lf wa mo wr mr pl ++ As))) ?_ ?_
    · have hb3 := H3.box 3 rfl
      refine ⟨s, rfl, p.2.2, show cellOf h3 (s.add 3) = _ from hb3.cell rfl, ?_, ?_⟩
      · refine H3.make C_ok u8v eU8 (by decide) 0 rfl rfl nd nd (by rw [hdl]) (by rw [hdl]) (Nat.le_refl _) (by omega) fun x h4 _ _ H4 => ?_
        have H4 := H4.front1
        refine ⟨⟨show cellOf h4 (s.add 3) = _ from (H4.box 4 rfl).cell rfl, trivial⟩, ?_⟩
        refine H4.make C_ok u8v eU8 (by decide) 0 rfl rfl w w hp hp (Nat.le_refl _) (by omega) fun y h5 _ _ H5 => ⟨trivial, H5.front1.swap01⟩
      · refine H3.make C_ok u8v eU8 (by decide) 0 rfl rfl w w hp hp (Nat.le_refl _) (by omega) fun y h4 _ _ H4 => ⟨trivial, ?_⟩
        refine H4.front1.make C_ok u8v eU8 (by decide) 0 rfl rfl nd nd (by rw [hdl]) (by rw [hdl]) (Nat.le_refl _) (by omega) fun x h5 _ _ H5 => ⟨trivial, H5.front1⟩
    rintro ⟨way, more⟩ h4 H4
    dsimp only at H4 ⊢
    refine loop_inv (fun j : Nat => (j : Int)) (fun j h' => j ≤ n ∧ SpB B h0 h' (RA way (addR W ah[i] (zeroB nd) j) :: RA more (addR M ah[i] (zeroB w) j) :: FixA (EltS 1 u8v) 1 slv q qr ah :: MA a (L.map rA ++ (ah.take i).map rA2) :: CA b (L.map rB ++ (ah.take i).map rB2) :: (Told s f p v r st dd lf wa mo wr mr pl ++ As))) (fun j => n - j) 0 rfl ⟨by omega, H4⟩ ?_
    rintro j h5 ⟨hj, H5⟩
    have lenW : (addR W ah[i] (zeroB nd) j).length = nd := addR_len _ (by simp [zeroB]) fun k hk => (hlen k (by omega)).1
    have lenM : (addR M ah[i] (zeroB w) j).length = w := addR_len _ (by simp [zeroB]) fun k hk => (hlen k (by omega)).2
    refine br_dec (fun e2 => ?_) (fun e2 => ?_)
    · have hj' : j < n := by omega
      have hjx : j < ah[i].length := by omega
      refine (Fix.row (H5.fixRd 2 rfl) hi').get1 j rfl hjx _ rfl ?_
      have hcol : ah[i][j]'hjx = colB ah[i] j := by rw [colB, List.getD_eq_getElem?_getD, List.getElem?_eq_getElem hjx]; rfl
      rw [hcol]
      have tc := hlen j hj'
      refine (sadd_spec s f (colB ah[i] j) (j : Int) way more wa mo _ _ wr mr W M H5 (St.mk' fun h' H' => SR (solv (Cs := [_, _, _]) H')) (by omega) (by omega) (by omega) (by rw [Int.toNat_natCast, tc.1, lenW]) (by rw [Int.toNat_natCast, tc.2, lenM]) (by omega) (by omega)).mono ?_
      rintro _ h6 ⟨rfl, H6⟩
      rw [Int.toNat_natCast] at H6
      exact ⟨(), rfl, j + 1, by rw [Go.Vc.wrap_small _ (by omega) (by omega)]; rfl, ⟨by omega, H6⟩, by omega⟩
    · have hje : j = n := by omega
      subst hje
      have H6 := SpB.ownCap (H5.freeze 0 rfl fun _ => rfl) 1 rfl
      refine H6.rowPush C_ok 3 0 (by decide) rfl rfl eSlU8 (by simp; omega) fun a' h7 H7 => ?_
      refine H7.ePush C_ok 4 1 (by decide) rfl rfl eSlU8 rfl (by decide) (fun _ => rfl) one_sl rfl (by decide) (by simp; omega) fun b' h8 H8 => ?_
      refine ⟨(i + 1, a', b'), by dsimp only; rw [Go.Vc.wrap_small _ (by omega) (by omega)]; rfl, ⟨by dsimp only; omega, ?_⟩, by dsimp only; omega⟩
      dsimp only
      rw [take_snoc _ _ hi', List.map_append, List.map_append, ← List.append_assoc, ← List.append_assoc]
      exact H8.selT 9 [2, 3, 4, 5, 6, 7, 8]
  · have hie : i = ah.length := by omega
    subst hie
    rw [List.take_length] at H3
    exact ⟨a, b, rfl, H3.rest⟩
end
end Go.Proofs.YtkcplnfomahleaaGreatDoor
namespace Go.Proofs.YtkcplnfomahleaaGreatDoor
open Go Go.Vc Go.Proofs Wl
set_option maxRecDepth 100000
section
variable {B : Blocks} {h0 h : Heap} {As : List HP}
theorem findIdx_done {α : Type} {g : α → Bool} {l : List α} {i : Nat} (h : i < l.length) (hno : ∀ j (hj : j < l.length), j < i → g l[j] = false) (hi : g l[i] = true) : l.findIdx g = i := by
  rw [List.findIdx_eq h]; exact ⟨hi, fun j hj => hno j (by omega) hj⟩
theorem indexI_spec (s : Sl) (l : List Int) (fid : FuncId) (caps : Array Value) (g : Int → Bool) (Q : Heap → Prop) (hg : C.fns[fid]? = some true) (hQ : St B h0 As Q) (hfn : ∀ x h', Q h' → Meets Tryz.prog fid ([Value.int .i64 x] ++ caps.toList).toArray h' fun v h'' => v = .bool (g x) ∧ Sp h' h'' []) (H : SpB B h0 h (OwnA T_int s 1 intv l :: As)) (hl : l.length ≤ 2 ^ 20) :
    Meets Tryz.prog slices_IndexFunc_int_int_id #[.slice s.ptr s.len s.cap, .func (.func fid) #[] caps] h fun v h' => v = .int .i64 (if l.findIdx g < l.length then (l.findIdx g : Int) else -1) ∧ SpB B h0 h' (OwnA T_int s 1 intv l :: As) := by
  refine slices_IndexFunc_int_int_run s (fid, caps) ?_
  unfold slices_IndexFunc_int_int_m
  have hsl := (H.own 0 rfl).len
  refine loop_inv (fun i : Nat => (i : Int)) (fun i h' => SpB B h0 h' (OwnA T_int s 1 intv l :: As) ∧ i ≤ l.length ∧ ∀ j (hj : j < l.length), j < i → g l[j] = false) (fun i => l.length - i) 0 rfl ⟨H, by omega, fun j _ hj => by omega⟩ ?_
  rintro i h1 ⟨H1, hi, hno⟩
  refine br_dec (fun e => ?_) (fun e => ?_)
  · have hi' : i < l.length := by omega
    refine (H1.seq 0 rfl fun _ => rfl).get1 i rfl hi' _ rfl ?_
    refine dyn_in hg ?_
    refine (hfn l[i] h1 (hQ.at [_] H1)).mono ?_
    rintro _ h2 ⟨rfl, R2⟩
    refine ⟨_, rfl, br_b (fun e2 => ?_) (fun e2 => ?_)⟩
    · rw [findIdx_done hi' hno e2, if_pos hi']; exact ⟨rfl, H1.up R2.pres⟩
    · refine ⟨i + 1, by rw [Go.Vc.wrap_small _ (by omega) (by omega)]; rfl, ⟨H1.up R2.pres, by omega, fun j hj hji => ?_⟩, by omega⟩
      rcases Nat.lt_succ_iff_lt_or_eq.1 hji with h3 | rfl
      · exact hno j hj h3
      · exact e2
  · have hno' : ¬ l.findIdx g < l.length := by
      rw [List.findIdx_lt_length]
      rintro ⟨x, hx, hx0⟩
      obtain ⟨j, hj, rfl⟩ := List.getElem_of_mem hx
      rw [hno j hj (by omega)] at hx0; cases hx0
    rw [if_neg hno']; exact ⟨rfl, H1⟩
theorem findIdx_no {α : Type} {g : α → Bool} {l : List α} {j : Nat} (h : j < l.findIdx g) (hj : j < l.length) : g l[j] = false := by
  simpa using List.not_of_lt_findIdx h
structure Moved {α : Type} (g : α → Bool) (l l' : List α) (i j : Nat) : Prop where
  len : l'.length = l.length
  le : i ≤ j
  pre : l'.take i = (l.take j).filter fun x => !g x
  post : l'.drop j = l.drop j
theorem Moved.start {α : Type} {g : α → Bool} {l : List α} {i : Nat} (h : i < l.length) (he : l.findIdx g = i) : Moved g l l i (i + 1) := by
  refine ⟨rfl, by omega, ?_, rfl⟩
  have hgi : g l[i] = true := by
    have := List.findIdx_getElem (xs := l) (p := g) (w := by rw [he]; exact h)
    simpa [he] using this
  rw [take_snoc _ _ h, List.filter_append, List.filter_cons, hgi]
  have : (l.take i).filter (fun x => !g x) = l.take i := List.filter_eq_self.2 fun x hx => by
    obtain ⟨j, hj, rfl⟩ := List.getElem_of_mem hx
    simp only [List.length_take] at hj
    rw [List.getElem_take, findIdx_no (g := g) (l := l) (j := j) (by omega) (by omega)]; rfl
  rw [this]; simp
theorem Moved.at_ {α : Type} {g : α → Bool} {l l' : List α} {i j : Nat} (x : Moved g l l' i j) (hj : j < l.length) : l'[j]'(by rw [x.len]; exact hj) = l[j] := by
  have h := congrArg (fun m => m[0]?) x.post
  simp only [List.getElem?_drop, Nat.add_zero] at h
  rw [List.getElem?_eq_getElem hj, List.getElem?_eq_getElem (by rw [x.len]; exact hj)] at h
  exact Option.some.inj h
theorem Moved.keep {α : Type} {g : α → Bool} {l l' : List α} {i j : Nat} (x : Moved g l l' i j) (hj : j < l.length) (hg : g l[j] = false) : Moved g l (l'.set i l[j]) (i + 1) (j + 1) := by
  have hl := x.len; have hle := x.le
  refine ⟨by simp [hl], by omega, ?_, ?_⟩
  · rw [take_snoc _ _ (by simp; omega), List.getElem_set_self, List.take_set_of_le (Nat.le_refl _), x.pre, take_snoc _ _ hj, List.filter_append, List.filter_cons, hg]; rfl
  · rw [List.drop_set_of_lt (by omega)]
    have h1 := congrArg (List.drop 1) x.post
    simpa [List.drop_drop] using h1
theorem Moved.skip {α : Type} {g : α → Bool} {l l' : List α} {i j : Nat} (x : Moved g l l' i j) (hj : j < l.length) (hg : g l[j] = true) : Moved g l l' i (j + 1) := by
  have hl := x.len; have hle := x.le
  refine ⟨hl, by omega, ?_, ?_⟩
  · rw [x.pre, take_snoc _ _ hj, List.filter_append, List.filter_cons, hg]; simp
  · have h1 := congrArg (List.drop 1) x.post
    simpa [List.drop_drop] using h1
theorem filter_all {α : Type} {g : α → Bool} {l : List α} (h : ¬ l.findIdx g < l.length) : l.filter (fun x => !g x) = l := List.filter_eq_self.2 fun x hx => by
  have : g x = false := by
    cases hh : g x with
    | false => rfl
    | true => exact absurd (List.findIdx_lt_length.2 ⟨x, hx, hh⟩) h
  rw [this]; rfl
theorem deleteI_spec (s : Sl) (l : List Int) (fid : FuncId) (caps : Array Value) (g : Int → Bool) (Q : Heap → Prop) (hg : C.fns[fid]? = some true) (hQ : St B h0 As Q) (hfn : ∀ x h', Q h' → Meets Tryz.prog fid ([Value.int .i64 x] ++ caps.toList).toArray h' fun v h'' => v = .bool (g x) ∧ Sp h' h'' []) (H : SpB B h0 h (OwnA T_int s 1 intv l :: As)) (hl : l.length ≤ 2 ^ 20) :
    Meets Tryz.prog slices_DeleteFunc_int_int_id #[.slice s.ptr s.len s.cap, .func (.func fid) #[] caps] h fun v h' => ∃ r : Sl, v = .slice r.ptr r.len r.cap ∧ SpB B h0 h' (OwnA T_int r 1 intv (l.filter fun x => !g x) :: As) := by
  refine slices_DeleteFunc_int_int_run s (fid, caps) ?_
  unfold slices_DeleteFunc_int_int_m
  refine (indexI_spec s l fid caps g Q hg hQ hfn H hl).mono ?_
  rintro _ h1 ⟨rfl, H1⟩
  have hsl := (H.own 0 rfl).len
  have hsc := (H.own 0 rfl).cap
  refine ⟨_, rfl, br_eq (fun e => ?_) (fun e => ?_)⟩
  · have hno : ¬ l.findIdx g < l.length := fun hh => by rw [if_pos hh] at e; omega
    exact ⟨s, rfl, by rw [filter_all hno]; exact H1⟩
  · have hyes : l.findIdx g < l.length := by
      by_cases hh : l.findIdx g < l.length
      · exact hh
      · rw [if_neg hh] at e; exact absurd rfl e
    rw [if_pos hyes]
    refine loop_inv (fun t : Nat × Nat × List Int => ((t.1 : Int), (t.2.1 : Int))) (fun t h' => Moved g l t.2.2 t.1 t.2.1 ∧ t.2.1 ≤ l.length ∧ SpB B h0 h' (OwnA T_int s 1 intv t.2.2 :: As)) (fun t => l.length - t.2.1) (l.findIdx g, l.findIdx g + 1, l) (by rw [Go.Vc.wrap_small _ (by omega) (by omega)]; rfl) ⟨Moved.start hyes rfl, by dsimp only; omega, H1⟩ ?_
    rintro ⟨i, j, l'⟩ h2 ⟨M2, hj, H2⟩
    dsimp only at *
    have hl' := M2.len; have hle := M2.le
    refine br_dec (fun e2 => ?_) (fun e2 => ?_)
    · have hj' : j < l.length := by omega
      refine (H2.seq 0 rfl fun _ => rfl).get1 j rfl (by omega) _ rfl ?_
      rw [M2.at_ hj']
      refine dyn_in hg ?_
      refine (hfn l[j] h2 (hQ.at [_] H2)).mono ?_
      rintro _ h3 ⟨rfl, R3⟩
      have H3 := H2.up R3.pres
      refine ⟨_, rfl, br_not (fun e3 => ?_) (fun e3 => ?_)⟩
      · refine H3.set C_ok 0 rfl (fun _ => rfl) rfl i rfl (by omega) l[j] rfl rfl rfl fun h4 H4 => ?_
        exact ⟨(i + 1, j + 1, l'.set i l[j]), by dsimp only; rw [Go.Vc.wrap_small _ (by omega) (by omega), Go.Vc.wrap_small _ (by omega) (by omega)]; rfl, ⟨M2.keep hj' (by simpa using e3), by dsimp only; omega, H4⟩, by dsimp only; omega⟩
      · exact ⟨(i, j + 1, l'), by dsimp only; rw [Go.Vc.wrap_small _ (by omega) (by omega)]; rfl, ⟨M2.skip hj' (by simpa using e3), by dsimp only; omega, H3⟩, by dsimp only; omega⟩
    · have hje : j = l.length := by omega
      subst hje
      refine ⟨⟨by omega, by omega⟩, ?_⟩
      rw [Int.toNat_natCast]
      refine H2.clearTail C_ok 0 rfl eInt (fun _ => rfl) rfl (by decide) i (by omega) fun h3 H3 => ⟨⟨by omega, by omega⟩, ⟨s.ptr, i, s.cap⟩, rfl, ?_⟩
      have := M2.pre
      rw [List.take_length] at this
      rw [← this]; exact H3
end
end Go.Proofs.YtkcplnfomahleaaGreatDoor
namespace Go.Proofs.YtkcplnfomahleaaGreatDoor
open Go Go.Vc Go.Proofs Wl
set_option maxRecDepth 100000
section
variable {B : Blocks} {h0 h : Heap} {As : List HP}
abbrev eStep' : ElemOk C.toCfg T_sl_api_Step T_api_Step 2 [.int .i64 0, .int .i64 0] 16 := ⟨_, _, rfl, rfl, rfl, rfl, rfl, rfl⟩
theorem indexS_spec (s : Sl) (l : List (Int × Int)) (fid : FuncId) (caps : Array Value) (g : Int × Int → Bool) (Q : Heap → Prop) (hg : C.fns[fid]? = some true) (hQ : St B h0 As Q) (hfn : ∀ x h', Q h' → Meets Tryz.prog fid ([Value.agg #[.int .i64 x.1, .int .i64 x.2]] ++ caps.toList).toArray h' fun v h'' => v = .bool (g x) ∧ Sp h' h'' []) (H : SpB B h0 h (OwnA T_api_Step s 2 stepv l :: As)) (hl : l.length ≤ 2 ^ 20) :
    Meets Tryz.prog slices_IndexFunc_api_Step_api_Step_id #[.slice s.ptr s.len s.cap, .func (.func fid) #[] caps] h fun v h' => v = .int .i64 (if l.findIdx g < l.length then (l.findIdx g : Int) else -1) ∧ SpB B h0 h' (OwnA T_api_Step s 2 stepv l :: As) := by
  refine slices_IndexFunc_api_Step_api_Step_run s (fid, caps) ?_
  unfold slices_IndexFunc_api_Step_api_Step_m
  have hsl := (H.own 0 rfl).len
  refine loop_inv (fun i : Nat => (i : Int)) (fun i h' => SpB B h0 h' (OwnA T_api_Step s 2 stepv l :: As) ∧ i ≤ l.length ∧ ∀ j (hj : j < l.length), j < i → g l[j] = false) (fun i => l.length - i) 0 rfl ⟨H, by omega, fun j _ hj => by omega⟩ ?_
  rintro i h1 ⟨H1, hi, hno⟩
  refine br_dec (fun e => ?_) (fun e => ?_)
  · have hi' : i < l.length := by omega
    refine (H1.seq 0 rfl fun _ => rfl).getk (g := stepv) i rfl hi' l[i] rfl ?_
    refine dyn_in hg ?_
    refine (hfn l[i] h1 (hQ.at [_] H1)).mono ?_
    rintro _ h2 ⟨rfl, R2⟩
    refine ⟨_, rfl, br_b (fun e2 => ?_) (fun e2 => ?_)⟩
    · rw [findIdx_done hi' hno e2, if_pos hi']; exact ⟨rfl, H1.up R2.pres⟩
    · refine ⟨i + 1, by rw [Go.Vc.wrap_small _ (by omega) (by omega)]; rfl, ⟨H1.up R2.pres, by omega, fun j hj hji => ?_⟩, by omega⟩
      rcases Nat.lt_succ_iff_lt_or_eq.1 hji with h3 | rfl
      · exact hno j hj h3
      · exact e2
  · have hno' : ¬ l.findIdx g < l.length := by
      rw [List.findIdx_lt_length]
      rintro ⟨x, hx, hx0⟩
      obtain ⟨j, hj, rfl⟩ := List.getElem_of_mem hx
      rw [hno j hj (by omega)] at hx0; cases hx0
    rw [if_neg hno']; exact ⟨rfl, H1⟩
theorem deleteS_spec (s : Sl) (l : List (Int × Int)) (fid : FuncId) (caps : Array Value) (g : Int × Int → Bool) (Q : Heap → Prop) (hg : C.fns[fid]? = some true) (hQ : St B h0 As Q) (hfn : ∀ x h', Q h' → Meets Tryz.prog fid ([Value.agg #[.int .i64 x.1, .int .i64 x.2]] ++ caps.toList).toArray h' fun v h'' => v = .bool (g x) ∧ Sp h' h'' []) (H : SpB B h0 h (OwnA T_api_Step s 2 stepv l :: As)) (hl : l.length ≤ 2 ^ 20) :
    Meets Tryz.prog slices_DeleteFunc_api_Step_api_Step_id #[.slice s.ptr s.len s.cap, .func (.func fid) #[] caps] h fun v h' => ∃ r : Sl, v = .slice r.ptr r.len r.cap ∧ SpB B h0 h' (OwnA T_api_Step r 2 stepv (l.filter fun x => !g x) :: As) := by
  refine slices_DeleteFunc_api_Step_api_Step_run s (fid, caps) ?_
  unfold slices_DeleteFunc_api_Step_api_Step_m
  refine (indexS_spec s l fid caps g Q hg hQ hfn H hl).mono ?_
  rintro _ h1 ⟨rfl, H1⟩
  have hsl := (H.own 0 rfl).len
  have hsc := (H.own 0 rfl).cap
  refine ⟨_, rfl, br_eq (fun e => ?_) (fun e => ?_)⟩
  · have hno : ¬ l.findIdx g < l.length := fun hh => by rw [if_pos hh] at e; omega
    exact ⟨s, rfl, by rw [filter_all hno]; exact H1⟩
  · have hyes : l.findIdx g < l.length := by
      by_cases hh : l.findIdx g < l.length
      · exact hh
      · rw [if_neg hh] at e; exact absurd rfl e
    rw [if_pos hyes]
    refine loop_inv (fun t : Nat × Nat × List (Int × Int) => ((t.1 : Int), (t.2.1 : Int))) (fun t h' => Moved g l t.2.2 t.1 t.2.1 ∧ t.2.1 ≤ l.length ∧ SpB B h0 h' (OwnA T_api_Step s 2 stepv t.2.2 :: As)) (fun t => l.length - t.2.1) (l.findIdx g, l.findIdx g + 1, l) (by rw [Go.Vc.wrap_small _ (by omega) (by omega)]; rfl) ⟨Moved.start hyes rfl, by dsimp only; omega, H1⟩ ?_
    rintro ⟨i, j, l'⟩ h2 ⟨M2, hj, H2⟩
    dsimp only at *
    have hl' := M2.len; have hle := M2.le
    refine br_dec (fun e2 => ?_) (fun e2 => ?_)
    · have hj' : j < l.length := by omega
      refine (H2.seq 0 rfl fun _ => rfl).getk (g := stepv) j rfl (by omega) l[j] (by rw [M2.at_ hj']) ?_
      refine H2.alloc C_ok rfl fun a5 h3 H3 => ?_
      have H3 := H3.front1
      refine H3.storeAll C_ok 0 rfl rfl (stepv l[j]) rfl rfl rfl rfl fun h4 H4 => ?_
      refine ⟨l[j], (H4.box 0 rfl).cells0 _ rfl, ?_⟩
      refine dyn_in hg ?_
      refine (hfn l[j] h4 (hQ.at [_, _] H4)).mono ?_
      rintro _ h5 ⟨rfl, R5⟩
      have H5 := H4.up R5.pres
      have H3 := H5.drop1
      refine ⟨_, rfl, br_not (fun e3 => ?_) (fun e3 => ?_)⟩
      · refine ⟨l[j], (H5.box 0 rfl).cells0 _ rfl, ?_⟩
        refine H3.set C_ok 0 rfl (fun _ => rfl) rfl i rfl (by omega) l[j] rfl rfl rfl fun h4 H4 => ?_
        exact ⟨(i + 1, j + 1, l'.set i l[j]), by dsimp only; rw [Go.Vc.wrap_small _ (by omega) (by omega), Go.Vc.wrap_small _ (by omega) (by omega)]; rfl, ⟨M2.keep hj' (by simpa using e3), by dsimp only; omega, H4⟩, by dsimp only; omega⟩
      · exact ⟨(i, j + 1, l'), by dsimp only; rw [Go.Vc.wrap_small _ (by omega) (by omega)]; rfl, ⟨M2.skip hj' (by simpa using e3), by dsimp only; omega, H3⟩, by dsimp only; omega⟩
    · have hje : j = l.length := by omega
      subst hje
      refine ⟨⟨by omega, by omega⟩, ?_⟩
      rw [Int.toNat_natCast]
      refine H2.clearTail C_ok 0 rfl eStep' (fun _ => rfl) rfl (by decide) i (by omega) fun h3 H3 => ⟨⟨by omega, by omega⟩, ⟨s.ptr, i, s.cap⟩, rfl, ?_⟩
      have := M2.pre
      rw [List.take_length] at this
      rw [← this]; exact H3
end
end Go.Proofs.YtkcplnfomahleaaGreatDoor
namespace Go.Proofs.YtkcplnfomahleaaGreatDoor
open Go Go.Vc Go.Proofs Wl
set_option maxRecDepth 100000
section
variable {B : Blocks} {h0 h : Heap} {As : List HP}
def IPool (pool : List (Sl × List Int)) : HP := ⟨fun h q => ∀ x ∈ pool, Seq h q x.1 1 intv x.2, fun a hp x hx => (a x hx).pres hp, fun a hq x hx => (a x hx).mono hq⟩
theorem SpB.ipool0 (H : SpB B h0 h As) : SpB B h0 h (As ++ [IPool []]) := H.comp (.one (Pres.refl _ _) fun x hx => by cases hx)
theorem SpB.ipool (H : SpB B h0 h As) (i j : Nat) (hij : i ≠ j) {pool : List (Sl × List Int)} {r : Sl} {l : List Int} (hi : As[i]? = some (IPool pool)) (hj : As[j]? = some (SeqA r 1 intv l)) : SpB B h0 h ((As.set i (IPool (pool ++ [(r, l)]))).set j emp) :=
  H.merge i j hij hi hj fun q1 q2 _ hA hB x hx => by
    rcases List.mem_append.1 hx with hx | hx
    · exact (hA x hx).mono fun _ h => .inl h
    · rw [List.mem_singleton] at hx; subst hx
      exact Seq.mono hB fun _ h => .inr h
abbrev eSlI : ElemOk C.toCfg T_sl_sl_int T_sl_int 1 [.slice none 0 0] 24 := ⟨_, _, rfl, rfl, rfl, rfl, rfl, rfl⟩
theorem order1_spec (s a1 : Addr) (r : Sl) (x : Int × Int) (h' : Heap) (hq : cellOf h' a1 = some (.pointer (some s)) ∧ cellOf h' (s.add 5) = some (.slice r.ptr r.len r.cap)) :
    Meets Tryz.prog decode_solver_order_1_id ([Value.agg #[.int .i64 x.1, .int .i64 x.2]] ++ (#[Value.pointer (some a1)] : Array Value).toList).toArray h' fun v h'' => v = .bool (decide (x.1 ≥ (r.len : Int))) ∧ Sp h' h'' [] := by
  refine decode_solver_order_1_run x a1 ?_
  unfold decode_solver_order_1_m
  refine (Sp.refl h').boxed fun a h1 H1 => ?_
  exact ⟨x.1, (H1.box 0 rfl).cell0 rfl, some s, held_up hq.1 H1.pres, s, rfl, r, held_up hq.2 H1.pres, rfl, .zip H1.pres⟩
theorem order2_spec (s a1 : Addr) (r : Sl) (x : Int) (h' : Heap) (hq : cellOf h' a1 = some (.pointer (some s)) ∧ cellOf h' (s.add 5) = some (.slice r.ptr r.len r.cap)) :
    Meets Tryz.prog decode_solver_order_2_id ([Value.int .i64 x] ++ (#[Value.pointer (some a1)] : Array Value).toList).toArray h' fun v h'' => v = .bool (decide (x ≥ (r.len : Int))) ∧ Sp h' h'' [] := by
  refine decode_solver_order_2_run x a1 ?_
  unfold decode_solver_order_2_m
  exact ⟨some s, hq.1, s, rfl, r, hq.2, rfl, Sp.refl _⟩
theorem order_spec (s f : Addr) (p : Int × Int × Int) (v r st0 dd0 lf0 wa mo kn : Sl) (rr : List (Sl × Sl)) (R : List EqL) (known : List Bool) (n : Nat) (H : SpB B h0 h (SA s (solvC f p v r st0 dd0 lf0 wa mo) :: As)) (hS : St B h0 As fun h => RdF EltQ 2 qv h r rr R ∧ Rd h kn 1 boolv known) (hkl : known.length = n) (hn : n ≤ 64) (hRl : R.length ≤ 2 ^ 19) (hel : ∀ e ∈ R, e.1.length ≤ 2 ^ 20)
    (hright : rightB (n : Int) (rowsOf R known n) = true) (hsz : (planL n (rowsOf R known n)).steps.length ≤ 2 ^ 20 ∧ (leftL (planL n (rowsOf R known n)).used (rowsOf R known n).length).length ≤ 2 ^ 20) :
    Meets Tryz.prog decode_solver_order_id #[.pointer (some s), .slice kn.ptr kn.len kn.cap] h fun v' h' => v' = .tuple #[] ∧ ∃ st dd lf : Sl, SpB B h0 h' (SA s (solvC f p v r st dd lf wa mo) :: OwnA T_api_Step st 2 stepv ((planL n (rowsOf R known n)).steps.filter fun x => decide (x.1 < R.length)) :: OwnA T_int dd 1 intv (planL n (rowsOf R known n)).dead :: OwnA T_int lf 1 intv ((leftL (planL n (rowsOf R known n)).used (rowsOf R known n).length).filter fun x => decide (x < R.length)) :: As) := by
  refine decode_solver_order_run (some s) kn ?_
  unfold decode_solver_order_m
  refine H.boxed fun a1 h1 H1 => ?_
  have H1 := H1.front1
  refine ⟨some s, (H1.box 0 rfl).cell0 rfl, s, rfl, r, (H1.box 1 rfl).cell rfl, ?_⟩
  have G1 := hS.at [_, _] H1
  have hrl := G1.1.1.len; have hrr := G1.1.2.1; have hknl := G1.2.len
  let pre : List HP := [BoxA a1 91 [.pointer (some s)], SA s (solvC f p v r st0 dd0 lf0 wa mo)]
  have H2 : SpB B h0 h1 (OwnA T_sl_int ⟨none, 0, 0⟩ 1 slv [] :: IPool [] :: BoxA a1 91 [.pointer (some s)] :: SA s (solvC f p v r st0 dd0 lf0 wa mo) :: As) := ((SpB.ipool0 H1).front1.nil T_sl_int 1 slv).front1
  refine loop_inv (fun t : Nat × Sl => (t.2, (t.1 : Int))) (fun t h' => t.1 ≤ R.length ∧ SpB B h0 h' (OwnA T_sl_int t.2 1 slv ((rr.take t.1).map Prod.fst) :: IPool [] :: BoxA a1 91 [.pointer (some s)] :: SA s (solvC f p v r st0 dd0 lf0 wa mo) :: As)) (fun t => R.length - t.1) (0, ⟨none, 0, 0⟩) rfl ⟨by simp, by simpa using H2⟩ ?_
  rintro ⟨i, o⟩ h3 ⟨hi, H3⟩
  dsimp only at *
  refine br_dec (fun e => ?_) (fun e => ?_)
  · have hi' : i < R.length := by omega
    have G3 := hS.at [_, _, _, _] H3
    refine G3.1.1.getk (g := qv) i rfl (by omega) (rr[i]'(by omega)) rfl ?_
    refine H3.alloc C_ok rfl fun a8 h4 H4 => ?_
    have H4 := H4.front1
    refine H4.storeAll C_ok 0 rfl rfl (qv (rr[i]'(by omega))) rfl rfl rfl rfl fun h5 H5 => ?_
    refine ⟨(rr[i]'(by omega)).1, (H5.box 0 rfl).cell0 rfl, ?_⟩
    refine H5.drop1.push C_ok 0 rfl eSlI rfl (by decide) (fun _ => rfl) one_sl (rr[i]'(by omega)).1 rfl (by decide) (by simp; omega) fun o' h6 H6 => ?_
    refine ⟨(i + 1, o'), by dsimp only; rw [Go.Vc.wrap_small _ (by omega) (by omega)]; rfl, ⟨by dsimp only; omega, ?_⟩, by dsimp only; omega⟩
    dsimp only
    rw [take_snoc rr i (by omega), List.map_append]
    exact H6
  have hie : i = R.length := by omega
  subst hie
  rw [List.take_of_length_le (by omega)] at H3
  refine loop_inv (fun t : Nat × Sl × List Sl => (t.2.1, (t.1 : Int))) (fun t h' => t.1 ≤ n ∧ t.2.2.length = (knownRows known t.1).length ∧ SpB B h0 h' (OwnA T_sl_int t.2.1 1 slv (rr.map Prod.fst ++ t.2.2) :: IPool (t.2.2.zip (knownRows known t.1)) :: BoxA a1 91 [.pointer (some s)] :: SA s (solvC f p v r st0 dd0 lf0 wa mo) :: As)) (fun t => n - t.1) (0, o, []) rfl ⟨by omega, rfl, by simpa using H3⟩ ?_
  rintro ⟨i, o, sr⟩ h4 ⟨hi, hsr, H4⟩
  dsimp only at *
  have hkr := knownRows_len known i
  refine br_dec (fun e => ?_) (fun e => ?_)
  · have hi' : i < n := by omega
    have G4 := hS.at [_, _, _, _] H4
    refine G4.2.get1 i rfl (by omega) _ rfl ?_
    have hgd : known.getD i false = known[i]'(by omega) := by rw [List.getD_eq_getElem?_getD, List.getElem?_eq_getElem (by omega)]; rfl
    have hs := knownRows_succ known i
    rw [hgd] at hs
    refine br_b (fun e2 => ?_) (fun e2 => ?_)
    · rw [e2, if_pos rfl] at hs
      refine H4.lit C_ok intv eInt rfl [(i : Int)] rfl (show 1 * 1 ≤ 2 ^ 20 by decide) rfl fun b h5 H5 => ?_
      have H5 := H5.front1.freeze 0 rfl fun _ => rfl
      have H6 := SpB.ipool H5 2 0 (by decide) rfl rfl
      refine H6.push C_ok 1 rfl eSlI rfl (by decide) (fun _ => rfl) one_sl b rfl (by decide) (by simp; omega) fun o' h7 H7 => ?_
      refine ⟨(i + 1, o', sr ++ [b]), by dsimp only; rw [Go.Vc.wrap_small _ (by omega) (by omega)]; rfl, ⟨by dsimp only; omega, by dsimp only; rw [hs]; simp [hsr], ?_⟩, by dsimp only; omega⟩
      dsimp only
      rw [hs, List.zip_append hsr, ← List.append_assoc]
      exact H7.drop1
    · rw [e2, if_neg (by simp), List.append_nil] at hs
      exact ⟨(i + 1, o, sr), by dsimp only; rw [Go.Vc.wrap_small _ (by omega) (by omega)]; rfl, ⟨by dsimp only; omega, by dsimp only; rw [hs]; exact hsr, by dsimp only; rw [hs]; exact H4⟩, by dsimp only; omega⟩
  have hie : i = n := by omega
  subst hie
  have G4 := hS.at [_, _, _, _] H4
  have hrows : (rowsOf R known i).length = R.length + sr.length := by rw [rowsOf, List.length_append, List.length_map, hsr]
  have hSeq : Seq2 h4 (fun b => b < h4.size) o 1 intv (rowsOf R known i) (rr.map Prod.fst ++ sr) := by
    refine ⟨H4.seq 0 rfl fun _ => rfl, by rw [hrows]; simp; omega, fun k a l h1 h2 => ?_⟩
    by_cases hk : k < R.length
    · rw [List.getElem?_append_left (by simp; omega), List.getElem?_map, List.getElem?_eq_getElem (by omega)] at h1
      rw [rowsOf, List.getElem?_append_left (by simp; omega), List.getElem?_map, List.getElem?_eq_getElem hk] at h2
      simp only [Option.map_some, Option.some.injEq] at h1 h2
      subst h1; subst h2
      exact (Fix.row G4.1 hk).1
    · rw [List.getElem?_append_right (by simp; omega)] at h1
      rw [rowsOf, List.getElem?_append_right (by simp; omega)] at h2
      simp only [List.length_map, hrr] at h1 h2
      have hm : (a, l) ∈ sr.zip (knownRows known i) := by
        refine List.mem_iff_getElem?.2 ⟨k - R.length, ?_⟩
        rw [List.getElem?_zip_eq_some]; exact ⟨h1, h2⟩
      exact (H4.at 1 rfl) _ hm
  rw [hknl, hkl]
  refine (plan_spec (i : Int) o (rowsOf R known i) _ h4 hSeq (by omega) ?_).mono ?_
  · intro x hx
    rcases List.mem_append.1 hx with hx | hx
    · obtain ⟨e, he, rfl⟩ := List.mem_map.1 hx
      have := hel e he; omega
    · obtain ⟨c, hc, rfl⟩ := List.mem_map.1 hx; simp
  rintro _ h5 ⟨st, dd, lf, rfl, R5⟩
  have hpl : plOut (i : Int) (rowsOf R known i) = ((planL i (rowsOf R known i)).steps, (planL i (rowsOf R known i)).dead, leftL (planL i (rowsOf R known i)).used (rowsOf R known i).length) := by
    unfold plOut; rw [if_pos hright, Int.toNat_natCast]
  rw [hpl] at R5
  dsimp only at R5
  have H5 := ((H4.drop1).drop1).comp R5
  refine ⟨((st, dd, lf), _), rfl, ?_⟩
  have H6 : SpB B h0 h5 (OwnA T_api_Step st 2 stepv (planL i (rowsOf R known i)).steps :: OwnA T_int dd 1 intv (planL i (rowsOf R known i)).dead :: OwnA T_int lf 1 intv (leftL (planL i (rowsOf R known i)).used (rowsOf R known i).length) :: BoxA a1 91 [.pointer (some s)] :: SA s (solvC f p v r st0 dd0 lf0 wa mo) :: As) := SpB.front (As := BoxA a1 91 [.pointer (some s)] :: SA s (solvC f p v r st0 dd0 lf0 wa mo) :: As) (Bs := [_, _, _]) H5
  refine H6.alloc C_ok rfl fun a19 h7 H7 => ?_
  have H7 := H7.front1
  refine H7.storeAll C_ok 0 rfl rfl [.slice st.ptr st.len st.cap, .slice dd.ptr dd.len dd.cap, .slice lf.ptr lf.len lf.cap] rfl rfl rfl rfl fun h8 H8 => ?_
  refine ⟨st, (H8.box 0 rfl).cell0 rfl, ?_⟩
  refine (deleteS_spec st _ decode_solver_order_1_id #[.pointer (some a1)] (fun x => decide (x.1 ≥ (r.len : Int))) (fun h' => cellOf h' a1 = some (.pointer (some s)) ∧ cellOf h' (s.add 5) = some (.slice r.ptr r.len r.cap)) rfl (St.mk' fun h' H' => ⟨(H'.box 3 rfl).cell0 rfl, (H'.box 4 rfl).cell rfl⟩) (fun x h' hq => order1_spec s a1 r x h' hq) H8.swap01 hsz.1).mono ?_
  rintro _ h9 ⟨st', rfl, H9⟩
  refine ⟨st', rfl, ?_⟩
  refine H9.store0 C_ok 1 rfl rfl [.slice st'.ptr st'.len st'.cap] rfl rfl rfl (by simp) fun h10 H10 => ?_
  refine ⟨lf, (H10.box 1 rfl).cell rfl, ?_⟩
  have H11 := H10.selT 6 [3, 0, 1, 2, 4, 5]
  refine (deleteI_spec lf _ decode_solver_order_2_id #[.pointer (some a1)] (fun x => decide (x ≥ (r.len : Int))) (fun h' => cellOf h' a1 = some (.pointer (some s)) ∧ cellOf h' (s.add 5) = some (.slice r.ptr r.len r.cap)) rfl (St.mk' fun h' H' => ⟨(H'.box 3 rfl).cell0 rfl, (H'.box 4 rfl).cell rfl⟩) (fun x h' hq => order2_spec s a1 r x h' hq) H11 hsz.2).mono ?_
  rintro _ h12 ⟨lf', rfl, H12⟩
  refine ⟨lf', rfl, ?_⟩
  refine H12.store C_ok 2 rfl rfl 2 [.slice lf'.ptr lf'.len lf'.cap] rfl rfl rfl (by simp) fun h13 H13 => ?_
  refine ⟨some s, (H13.box 4 rfl).cell0 rfl, (st', dd, lf'), (H13.box 2 rfl).cells0 _ rfl, s, rfl, ?_⟩
  refine H13.store C_ok 5 rfl rfl 6 [.slice st'.ptr st'.len st'.cap, .slice dd.ptr dd.len dd.cap, .slice lf'.ptr lf'.len lf'.cap] rfl rfl rfl (by simp [solvC]) fun h14 H14 => ⟨rfl, st', dd, lf', ?_⟩
  have e1 : (fun x : Int × Int => !decide (x.1 ≥ (r.len : Int))) = fun x => decide (x.1 < (R.length : Int)) := by
    funext x; rw [hrl, hrr]; by_cases h : x.1 < (R.length : Int)
    · rw [decide_eq_true h, decide_eq_false (by omega)]; rfl
    · rw [decide_eq_false h, decide_eq_true (by omega)]; rfl
  have e2 : (fun x : Int => !decide (x ≥ (r.len : Int))) = fun x => decide (x < (R.length : Int)) := by
    funext x; rw [hrl, hrr]; by_cases h : x < (R.length : Int)
    · rw [decide_eq_true h, decide_eq_false (by omega)]; rfl
    · rw [decide_eq_false h, decide_eq_true (by omega)]; rfl
  rw [e1, e2] at H14
  exact H14.selT 6 [5, 1, 3, 0]
end
end Go.Proofs.YtkcplnfomahleaaGreatDoor
namespace Go.Proofs.YtkcplnfomahleaaGreatDoor
open Go Go.Vc Go.Proofs Wl
set_option maxRecDepth 100000
section
variable {B : Blocks} {h0 h : Heap} {As : List HP}
theorem rises_of : ∀ {l : List Int}, l.Pairwise (· < ·) → risesB l = true
  | [], _ => rfl
  | [_], _ => rfl
  | a :: b :: r, h => by
    rw [List.pairwise_cons] at h
    rw [risesB, rises_of h.2, decide_eq_true (h.1 b (by simp))]; rfl
theorem risesAt_of {l : List Int} (h : l.Pairwise (· < ·)) : risesAt l := fun i hi => List.pairwise_iff_getElem.1 h i (i + 1) (by omega) hi (by omega)
theorem rows_right {n : Nat} {R : List EqL} {known : List Bool} (hn : n ≤ 64) (hR : ∀ e ∈ R, (∀ c ∈ e.1, 0 ≤ c ∧ c < (n : Int)) ∧ e.1.Pairwise (· < ·)) : rightB (n : Int) (rowsOf R known n) = true := by
  unfold rightB
  rw [Bool.and_eq_true]
  refine ⟨by simp; omega, List.all_eq_true.2 fun r hr => ?_⟩
  unfold rowOk
  rw [Bool.and_eq_true]
  rcases List.mem_append.1 hr with hr | hr
  · obtain ⟨e, he, rfl⟩ := List.mem_map.1 hr
    exact ⟨List.all_eq_true.2 fun c hc => by simpa using (hR e he).1 c hc, rises_of (hR e he).2⟩
  · obtain ⟨d, rfl, hd, _⟩ := known_row hr
    exact ⟨by simp; omega, rfl⟩
theorem SpB.unrows {e : Nat} {v : Sl} {vs : Mat} (H : SpB B h0 h As) (i : Nat) (hi : As[i]? = some (RowsE e v 1 slv (EltN 1 u8v) vs)) :
    ∃ vr : List Sl, SpB B h0 h (As.set i (OwnA e v 1 slv vr) ++ [PoolA (vr.zip vs)]) ∧ vr.length = vs.length ∧ ∀ (c : Nat) (h1 : c < vr.length) (h2 : c < vs.length), vr[c].ptr.isNone = vs[c].isEmpty := by
  have hlt : i < As.length := (List.getElem?_eq_some_iff.1 hi).1
  have H2 : SpB B h0 h (As.set i (HP.ex fun vr : List Sl => ((OwnA e v 1 slv vr).sep (PoolA (vr.zip vs))).and (vr.length = vs.length ∧ ∀ (c : Nat) (h1 : c < vr.length) (h2 : c < vs.length), vr[c].ptr.isNone = vs[c].isEmpty))) :=
    H.weak i hi fun q ⟨rs, q1, a, b, c, d, e⟩ => ⟨rs, ⟨fun b => v.on b, q1, fun x hx => (b x hx).2, fun x hx => (b x hx).1, c, ⟨a, fun x hx => hx⟩, fun x hx => by
      obtain ⟨k, hk, hk2⟩ := List.getElem_of_mem hx
      simp only [List.length_zip] at hk
      rw [List.getElem_zip] at hk2
      subst hk2
      exact (e k _ _ (List.getElem?_eq_getElem (by omega)) (List.getElem?_eq_getElem (by omega))).1⟩, d, fun k h1 h2 => by
      obtain ⟨x, y⟩ := e k _ _ (List.getElem?_eq_getElem h1) (List.getElem?_eq_getElem h2)
      cases hv : vs[k] with
      | nil => rw [y hv]; rfl
      | cons z t =>
        have := x.isSome (by rw [hv]; simp)
        rw [this]; rfl⟩
  obtain ⟨vr, H3⟩ := H2.open' i (List.getElem?_set_self hlt)
  rw [List.set_set] at H3
  have hf := H3.fact i (List.getElem?_set_self hlt)
  have H4 := H3.unand i (List.getElem?_set_self hlt)
  rw [List.set_set] at H4
  have H5 := H4.split i (List.getElem?_set_self hlt)
  rw [List.set_set] at H5
  exact ⟨vr, H5, hf⟩
def yv (x : Int × Sl) : List Value := [.int .i64 x.1, .slice x.2.ptr x.2.len x.2.cap]
theorem one_yv : ∀ x, ∀ c ∈ yv x, c.oneCell' = true := fun x c hc => by
  simp only [yv, List.mem_cons, List.not_mem_nil, or_false] at hc
  rcases hc with rfl | rfl <;> rfl
def EltY : Elt (Int × Sl) (Int × Row) := ⟨fun h q a b => a.1 = b.1 ∧ Seq h q a.2 1 u8v b.2, fun a hp => ⟨a.1, a.2.pres hp⟩, fun a hq => ⟨a.1, a.2.mono hq⟩⟩
abbrev EltYs : Elt Sl (List (Int × Row)) := EltL EltY 2 yv
end
end Go.Proofs.YtkcplnfomahleaaGreatDoor
namespace Go.Proofs.YtkcplnfomahleaaGreatDoor
open Go Go.Vc Go.Proofs Wl
set_option maxRecDepth 100000
theorem inPool_zip {vr : List Sl} {vs : Mat} (h : vr.length = vs.length) (pl : List (Sl × Row)) (hs : ∀ x ∈ vr.zip vs, x ∈ pl) : inPool pl id vr vs :=
  ⟨h, fun i r l h1 h2 => hs _ (List.mem_iff_getElem?.2 ⟨i, by rw [List.getElem?_zip_eq_some]; exact ⟨h1, h2⟩⟩)⟩
theorem zip_snoc {α β : Type} : ∀ (a : List α) (x : α) (l : List β) (h : a.length < l.length), (a ++ [x]).zip l = a.zip l ++ [(x, l[a.length])]
  | [], x, b :: l, _ => by simp
  | c :: a, x, b :: l, h => by
    have := zip_snoc a x l (by simpa using h)
    simp [this]
def MidIs (h h' : Heap) (v : Value) (n : Nat) (A Bm : Mat) : Prop :=
  (calmB n A Bm ∧ ∃ r : Sl, v = .tuple #[.slice r.ptr r.len r.cap, .int .i64 0] ∧ Sp h h' [MA r (solB n A Bm)]) ∨ (¬ calmB n A Bm ∧ v = .tuple #[.slice none 0 0, .int .i64 10] ∧ Sp h h' [])
set_option maxHeartbeats 4000000 in
theorem mid_spec (p : Pm) (seed : Int) (l : Sl) (syms : List (Int × Row)) (n w : Nat) (h : Heap) (hl : RdE EltYs h l syms) (hmay : mayP p = true) (hok : ∀ x ∈ syms, SymOk p x) (hn : (colsP p).toNat = n) (hw : p.2.2.toNat = w) (hsl : syms.length ≤ 2 ^ 18) (hr : rankB (matI p seed (syms.map Prod.fst)) = n) :
    Meets Tryz.prog decode_mid_id #[pmv p, .int .u32 seed, .slice l.ptr l.len l.cap] h fun v h' => MidIs h h' v n (matI p seed (syms.map Prod.fst)) (midR p syms) := by
  refine decode_mid_run p seed l ?_
  unfold decode_mid_m
  have hmp := (mayP_iff p).1 hmay
  have hcp : colsP p = n := by rw [← hn]; have := colsP_eq hmay; omega
  have hnK : n = p.1.toNat + p.2.1.toNat := by rw [← hn, colsP_eq hmay]; omega
  have hpw : p.2.2 = (w : Int) := by omega
  have hn1 : 1 ≤ n := by omega
  have hn2 : n ≤ 20 := by omega
  obtain ⟨ys, hy1, hy2, hy3⟩ := EltL.heads hl
  have hll := EltL.len hl
  let eqs : List EqL := eqsOf n seed syms
  have heqs : eqs.length = syms.length := by simp [eqs, eqsOf]
  have hEq := eqs_ok (seed := seed) hn1 hn2 hok hw
  let colL : Nat → List (List Int) := fun i => (syms.take i).map fun x => colsI n seed x.1
  have hcl : ∀ x : Int × Row, x ∈ syms → (mayP p && mayID x.1) = true := fun x hx => by rw [hmay, (hok x hx).id]; rfl
  refine (Sp.refl h).boxed fun a1 h1 H1 => ?_
  have H1' : Sp h h1 [OwnA T_api_Eq ⟨none, 0, 0⟩ 2 qv [], IPool [], BoxA a1 T_api_Params [.int .i64 p.1, .int .i64 p.2.1, .int .i64 p.2.2]] := ((SpB.ipool0 H1).nil T_api_Eq 2 qv).sel [2, 1, 0]
  refine loop_inv (fun t : Nat × Sl × List Sl => (t.2.1, (t.1 : Int))) (fun t h' => t.1 ≤ syms.length ∧ t.2.2.length = t.1 ∧ Sp h h' [OwnA T_api_Eq t.2.1 2 qv (t.2.2.zip (ys.map Prod.snd)), IPool (t.2.2.zip (colL t.1)), BoxA a1 T_api_Params [.int .i64 p.1, .int .i64 p.2.1, .int .i64 p.2.2]]) (fun t => syms.length - t.1) (0, ⟨none, 0, 0⟩, []) rfl ⟨by simp, rfl, H1'⟩ ?_
  rintro ⟨i, o, cr⟩ h2 ⟨hi, hcr, H2⟩
  dsimp only at *
  have hcll : (colL i).length = i := by simp [colL]; omega
  refine br_dec (fun e => ?_) (fun e => ?_)
  · have hi' : i < syms.length := by omega
    obtain ⟨y1, y2⟩ := hy3 i (by omega) hi'
    refine (Seq.up hy1 H2.pres).getk (g := yv) i rfl (by omega) (ys[i]'(by omega)) rfl ?_
    refine H2.alloc C_ok rfl fun a5 h3 H3 => ?_
    refine H3.storeAll C_ok 3 rfl rfl (yv (ys[i]'(by omega))) rfl rfl rfl rfl fun h4 H4 => ?_
    refine ⟨p, (H4.box 2 rfl).cells0 _ rfl, (ys[i]'(by omega)).1, (H4.box 3 rfl).cell0 rfl, (ys[i]'(by omega)).2, (H4.box 3 rfl).cell rfl, ?_⟩
    refine (cols_spec p seed (ys[i]'(by omega)).1 h4).mono ?_
    rintro _ h5 ⟨r, rfl, R5⟩
    rw [y1, hcl _ (List.getElem_mem hi'), if_pos rfl, hn] at R5
    have H5 := (H4.comp R5).freeze 4 rfl fun _ => rfl
    refine ⟨r, rfl, ⟨(H5.box 3 rfl).cell rfl, trivial⟩, ?_⟩
    have H6 := SpB.ipool H5 1 4 (by decide) rfl rfl
    have hb6 := H6.box 3 rfl
    refine H6.litHeld C_ok qv eQ rfl [(r, (ys[i]'(by omega)).2)] rfl (show 1 * 2 ≤ 2 ^ 20 by decide) rfl ⟨hb6.cell rfl, trivial⟩ ?_
    refine H6.push C_ok 0 rfl eQ rfl (by decide) (fun _ => rfl) one_qv (r, (ys[i]'(by omega)).2) rfl (by decide) (by simp; omega) fun o' h7 H7 => ?_
    refine ⟨⟨(H7.box 3 rfl).cell rfl, trivial⟩, ?_⟩
    refine ⟨(i + 1, o', cr ++ [r]), by dsimp only; rw [Go.Vc.wrap_small _ (by omega) (by omega)]; rfl, ⟨by dsimp only; omega, by simp [hcr], ?_⟩, by dsimp only; omega⟩
    dsimp only
    have e1 : colL (i + 1) = colL i ++ [colsI n seed syms[i].1] := by simp only [colL]; rw [take_snoc _ _ hi', List.map_append]; rfl
    have e2 : (cr ++ [r]).zip (ys.map Prod.snd) = cr.zip (ys.map Prod.snd) ++ [(r, (ys[i]'(by omega)).2)] := by
      rw [zip_snoc cr r (ys.map Prod.snd) (by simp; omega), List.getElem_map]
      simp only [hcr]
    rw [e1, e2, List.zip_append (by rw [hcr, hcll])]
    exact H7.sel [0, 1, 2]
  have hie : i = syms.length := by omega
  subst hie
  have hcL : colL syms.length = syms.map fun x => colsI n seed x.1 := by simp only [colL]; rw [List.take_length]
  rw [hcL] at H2
  have mkE : ∀ {h' : Heap}, (∀ x ∈ cr.zip (syms.map fun x => colsI n seed x.1), Vc.Seq h' (fun b => b < h'.size) x.1 1 intv x.2) → Pres (fun b => b < h.size) h h' → Vc.Seq h' (fun b => b < h'.size) o 2 qv (cr.zip (ys.map Prod.snd)) → RdE EltQs h' o eqs := fun {h'} hp hpr hs => by
    refine ⟨_, hs, by simp [eqs, eqsOf]; omega, fun k a b h1 h2 => ?_⟩
    have hk : k < syms.length := by have := (List.getElem?_eq_some_iff.1 h2).1; omega
    rw [List.getElem?_eq_getElem (by simp; omega), List.getElem_zip, List.getElem_map] at h1
    have e2 : eqs[k]? = some (colsI n seed syms[k].1, syms[k].2) := by simp [eqs, eqsOf, hk]
    rw [e2] at h2
    simp only [Option.some.injEq] at h1 h2
    subst h1; subst h2
    refine ⟨hp (cr[k]'(by omega), colsI n seed syms[k].1) (List.mem_iff_getElem?.2 ⟨k, ?_⟩), Seq.up (hy3 k (by omega) hk).2 hpr⟩
    rw [List.getElem?_zip_eq_some]
    exact ⟨List.getElem?_eq_getElem _, by simp [hk]⟩
  refine join_cut (fun s h' => ∃ (a14 f : Addr), s = some a14 ∧ Sp h h' [SA a14 (solvC f p ⟨none, 0, 0⟩ ⟨none, 0, 0⟩ ⟨none, 0, 0⟩ ⟨none, 0, 0⟩ ⟨none, 0, 0⟩ ⟨none, 0, 0⟩ ⟨none, 0, 0⟩), OwnA T_api_Eq o 2 qv (cr.zip (ys.map Prod.snd)), IPool (cr.zip (syms.map fun x => colsI n seed x.1)), BoxA a1 T_api_Params [.int .i64 p.1, .int .i64 p.2.1, .int .i64 p.2.2], BoxA f T_gf_Field fieldCells]) ?_ ?_
  · refine ⟨p, (H2.box 2 rfl).cells0 _ rfl, (gfNew_spec h2).mono ?_⟩
    rintro _ h3 ⟨f, rfl, R3⟩
    have H3 := H2.comp R3
    refine ⟨some f, rfl, ⟨(H3.box 2 rfl).cell0 rfl, (H3.box 2 rfl).cell rfl, (H3.box 2 rfl).cell rfl, trivial⟩, ?_⟩
    refine H3.boxed fun a14 h4 H4 => ?_
    exact ⟨⟨(H4.box 2 rfl).cell0 rfl, (H4.box 2 rfl).cell rfl, (H4.box 2 rfl).cell rfl, trivial⟩, a14, f, rfl, H4.sel [4, 0, 1, 2, 3]⟩
  rintro _ h3 ⟨s, f, rfl, H3⟩
  refine ⟨p, (H3.box 3 rfl).cells0 _ rfl, (pre_Cols_spec p h3).mono ?_⟩
  rintro _ h4 ⟨rfl, R4⟩
  have H4 := H3.up R4.pres
  refine ⟨_, rfl, ?_⟩
  rw [hcp]
  have hE4 : RdE EltQs h4 o eqs := mkE (H4.at 2 rfl) H4.pres (H4.seq 1 rfl fun _ => rfl)
  have hel : ∀ e ∈ eqs, e.1.length ≤ 2 ^ 20 := fun e he => by
    obtain ⟨x, hx, rfl⟩ := List.mem_map.1 he
    have := colsI_len hn1 hn2 seed x.1
    dsimp only; omega
  refine (peel_spec o eqs n w h4 hE4 (fun e he => ⟨(hEq e he).1, risesAt_of (hEq e he).2⟩) (by omega) (by omega) ⟨by omega, by omega⟩ hel).mono ?_
  have hA : evenB n (aheadRows p.1.toNat p.2.1.toNat) := by rw [hnK]; exact ahead_even _ _
  have eA := eqs_A (seed := seed) hmay hn hok
  have eB := eqs_B (seed := seed) (n := n) (p := p) (l := syms) hw
  rw [← eA] at hr ⊢
  rw [← eB]
  rintro _ h5 ⟨known, vals, hI, ⟨hcl, rfl, R5⟩ | ⟨hcl, k, v, rs, rfl, R5⟩⟩
  · refine ⟨(⟨none, 0, 0⟩, ⟨none, 0, 0⟩, ⟨none, 0, 0⟩, 10), rfl, br_ne (fun _ => ?_) (fun e => absurd e (by decide))⟩
    exact .inr ⟨clash_not (fun e he => (hEq e he).1) hA hI hcl hr, rfl, (H4.up R5.pres).sel []⟩
  refine ⟨(k, v, rs, 0), rfl, br_ne (fun e => absurd rfl e) (fun _ => ?_)⟩
  have S := decSt_of (fun e he => (hEq e he).1) hA hI hcl
  have hgood := plan_good (fun e he => (hEq e he).1) hI
  obtain ⟨f1, f2, f3, f4, f5⟩ := plan_facts (fun e he => (hEq e he).1) hI
  have hRok := rest_ok hI (fun e he => (hEq e he).1)
  have hRlt := rest_lt (known := known) (vals := vals) (fun e he => (hEq e he).2)
  have hRl := restB_len (l := eqs) (known := known) (vals := vals)
  have hRc := rest_cols (known := known) (vals := vals) hel
  have hvl := hI.vlen; have hkl := hI.klen
  unfold lastW at S
  obtain ⟨R, hRe⟩ : ∃ R, R = restB' known vals eqs := ⟨_, rfl⟩
  change DecSt n w eqs _ known vals _ _ _ _ at S
  rw [← hRe] at S hgood f1 f2 f3 f4 f5 hRok hRlt hRl hRc R5
  obtain ⟨vr, H6, hvr, hnil⟩ := SpB.unrows (H4.comp R5) 6 rfl
  obtain ⟨rr, H7⟩ := SpB.eFix H6 7 rfl fun _ => rfl
  have H8 := SpB.poolNil H7 8 rfl
  have H9 : Sp h h5 [SA s (solvC f p ⟨none, 0, 0⟩ ⟨none, 0, 0⟩ ⟨none, 0, 0⟩ ⟨none, 0, 0⟩ ⟨none, 0, 0⟩ ⟨none, 0, 0⟩ ⟨none, 0, 0⟩), PoolA ((⟨none, 0, 0⟩, []) :: vr.zip vals), HA v vr, FixA EltQ 2 qv rs rr R, OwnA T_bool k 1 boolv known, BoxA f T_gf_Field fieldCells] := SpB.sel H8 [0, 8, 6, 7, 5, 4]
  have hvlen : v.len = n := by rw [(H9.own 2 rfl).len]; omega
  have hk : ∀ (c : Nat) (hc : c < vr.length), vr[c].ptr.isNone = !(known.getD c false) := fun c hc => by
    rw [hnil c hc (by omega)]
    have h1 := hI.row c (by omega)
    rw [row_get (show c < vals.length by omega)] at h1
    cases hkn : known.getD c false with
    | true =>
      rw [hkn, if_pos rfl] at h1
      cases hv : vals[c]'(by omega) with
      | nil => rw [hv] at h1; simp at h1; omega
      | cons x t => rfl
    | false =>
      rw [hkn, if_neg (by simp)] at h1
      rw [List.length_eq_zero_iff.1 h1]; rfl
  refine ⟨s, rfl, H9.store C_ok 0 rfl rfl 4 [.slice v.ptr v.len v.cap] rfl rfl rfl (by simp [solvC]) fun h6 H10 => ?_⟩
  refine ⟨s, rfl, H10.store C_ok 0 rfl rfl 5 [.slice rs.ptr rs.len rs.cap] rfl rfl rfl (by simp [solvC]) fun h7 H11 => ?_⟩
  have hrow := rows_right (known := known) (n := n) (by omega) fun e he => ⟨(hRok e he).cols, hRlt e he⟩
  have hplan := planL_ok (rows := rowsOf R known n) (n := n) (by rw [hRe]; exact rows_in (hRe ▸ hRok))
  have hrl : (rowsOf R known n).length ≤ R.length + n := by
    rw [rowsOf, List.length_append, List.length_map]; have := knownRows_len known n; omega
  refine (order_spec s f p v rs _ _ _ _ _ k rr R known n (As := [PoolA ((⟨none, 0, 0⟩, []) :: vr.zip vals), HA v vr, FixA EltQ 2 qv rs rr R, OwnA T_bool k 1 boolv known, BoxA f T_gf_Field fieldCells]) H11 (St.mk' fun h' H' => ⟨H'.fixRd 2 rfl, H'.seq 3 rfl fun _ => rfl⟩) hkl (by omega) (by omega) hRc hrow ⟨by have := hplan.1; omega, by have := left_le (planL n (rowsOf R known n)).used (rowsOf R known n).length; omega⟩).mono ?_
  rintro _ h8 ⟨rfl, st, dd, lf, H12⟩
  refine ⟨(), rfl, ?_⟩
  obtain ⟨D, hD⟩ : ∃ D, D = (planOf R known n).dead := ⟨_, rfl⟩
  obtain ⟨ST, hST⟩ : ∃ ST, ST = stepsOf R known n := ⟨_, rfl⟩
  obtain ⟨L, hL⟩ : ∃ L, L = Wl.leftOf R known n := ⟨_, rfl⟩
  have H13 : Sp h h8 (SA s (solvC f p v rs st dd lf ⟨none, 0, 0⟩ ⟨none, 0, 0⟩) :: PoolA ((⟨none, 0, 0⟩, []) :: vr.zip vals) :: [HA v vr, OwnA T_api_Step st 2 stepv ST, OwnA T_int dd 1 intv D, OwnA T_int lf 1 intv L, FixA EltQ 2 qv rs rr R, BoxA f T_gf_Field fieldCells]) := by
    rw [hD, hST, hL]; exact SpB.sel H12 [0, 4, 5, 1, 2, 3, 6, 8]
  rw [← hD] at S hgood f1 f2 f3 f5
  rw [← hST] at S hgood
  rw [← hL] at S f4
  have hSTl : ST.length ≤ 2 ^ 20 := by
    rw [hST, stepsOf, planOf]
    have := List.length_filter_le (fun x : Int × Int => decide (x.1 < R.length)) (planL n (rowsOf R known n)).steps
    have := hplan.1; omega
  have hLl : L.length ≤ 2 ^ 20 - 2 ^ 10 := by
    rw [hL, Wl.leftOf, planOf]
    have := List.length_filter_le (fun x : Int => decide (x < R.length)) (leftL (planL n (rowsOf R known n)).used (rowsOf R known n).length)
    have := left_le (planL n (rowsOf R known n)).used (rowsOf R known n).length; omega
  have hGiven : St (fun b => b < h.size) h [HA v vr, OwnA T_api_Step st 2 stepv ST, OwnA T_int dd 1 intv D, OwnA T_int lf 1 intv L, FixA EltQ 2 qv rs rr R, BoxA f T_gf_Field fieldCells] fun h => Given h f rs st dd lf rr R ST D L :=
    St.mk' fun h' H' => ⟨H'.box 5 rfl, H'.fixRd 4 rfl, H'.seq 1 rfl fun _ => rfl, H'.seq 2 rfl fun _ => rfl, H'.seq 3 rfl fun _ => rfl⟩
  refine (plain_spec s f p v rs st dd lf _ _ rr R ST D L n D.length w _ H13 hGiven hvlen (by omega) hpw (by omega) rfl (by omega) hRok f1 f2 hgood hSTl hRc (by simp)).mono ?_
  rintro _ h9 ⟨rfl, wa, mo, wr, mr, pl, H14, T14⟩
  refine ⟨(), rfl, ?_⟩
  have hdd := (hGiven.at [_, _, _, _] H14).dead.len
  generalize hS0 : ST.foldl (stepW R D.length) (deadB n D.length w D) = S0 at T14 S
  have hS1 : S0.1.length = n := by have := S.lens.1; simpa [fillB] using this
  have hS2 : S0.2.length = n := by have := S.lens.2.1; simpa [fillB] using this
  have hV : inPool pl id vr vals := inPool_zip hvr pl fun x hx => T14.sub x (List.mem_cons_of_mem _ hx)
  refine (fill_spec s f p v rs st dd lf wa mo vr wr mr pl known vals S0.1 S0.2 n D.length H14 (by omega) hdd (by omega) ⟨fun _ h => h, T14.way, T14.more⟩ hV hvl hS1 hS2 hk).mono ?_
  rintro _ h10 ⟨rfl, wr2, mr2, pl2, H15, T15⟩
  refine ⟨(), rfl, ?_⟩
  obtain ⟨W, hW⟩ : ∃ W, W = (fillB D.length known vals S0).1 := ⟨_, rfl⟩
  obtain ⟨M, hM⟩ : ∃ M, M = (fillB D.length known vals S0).2 := ⟨_, rfl⟩
  change ToldIs pl pl2 wr2 mr2 (fillB D.length known vals S0).1 (fillB D.length known vals S0).2 at T15
  rw [← hW, ← hM] at T15 S
  have hlens := S.lens
  refine (dense_spec s f p v rs st dd lf wa mo wr2 mr2 pl2 rr R ST D L W M n D.length w H15 hGiven hnK hpw (by omega) hmay rfl (by omega) hRok hRc f4 (by omega) ⟨fun _ h => h, T15.way, T15.more⟩ hlens.1 hlens.2.1 hlens.2.2).mono ?_
  rintro _ h11 ⟨a, b, rfl, H16⟩
  refine ⟨(a, b), rfl, s, rfl, dd, show cellOf h11 (s.add 7) = _ from (H16.box 2 rfl).cell rfl, ?_⟩
  have hV2 : inPool pl2 id vr vals := hV.mono T15.sub
  obtain ⟨e1, e2⟩ := dense_even S
  have hdl := dense_len (n := n) (w := w) (ahead := aheadRows p.1.toNat p.2.1.toNat) (l := eqs) (known := known) (vals := vals) (dead := D) (left := L) (W := W) (M := M)
  have hto : ∀ {X : Mat}, _ → _ := fun {X} hs => S.calm_to hr (D := X) hs
  have hof := S.calm_of hr
  have hdc := S.dense_calm (by omega) hr
  have hrk := S.rank (by omega) hr
  rw [← hRe] at e1 e2 hdl hto hof hdc hrk
  obtain ⟨dA, hdA⟩ : ∃ dA, dA = denseA n D.length R W L (aheadRows p.1.toNat p.2.1.toNat) := ⟨_, rfl⟩
  obtain ⟨dB, hdB⟩ : ∃ dB, dB = denseB n w R M L (aheadRows p.1.toNat p.2.1.toNat) := ⟨_, rfl⟩
  rw [← hdA] at e1 hdl hto hof hdc hrk H16
  rw [← hdB] at e2 hdl hto hof hdc H16
  have hdlen : dA.length = L.length + p.2.1.toNat := by rw [hdA]; simp [denseA, aheadRows]
  have hput : ∀ {h' : Heap} {pre : List HP} {dead : Sl} {dr : List Sl} {X : Mat} {Q : HP}, Sp h h' (Told s f p v rs st dd lf wa mo wr2 mr2 pl2 ++ HA v vr :: [OwnA T_api_Step st 2 stepv ST, OwnA T_int dd 1 intv D, OwnA T_int lf 1 intv L, FixA EltQ 2 qv rs rr R, BoxA f T_gf_Field fieldCells, Q]) → (∀ h', Q.p h' (fun b => b < h'.size) → Seq2 h' (fun b => b < h'.size) dead 1 u8v X dr) → solves D.length w dA dB X →
      Meets Tryz.prog decode_solver_put_id #[.pointer (some s), .slice dead.ptr dead.len dead.cap] h' fun v' h'' => v' = .tuple #[] ∧ cellOf h'' (s.add 4) = some (.slice v.ptr v.len v.cap) ∧ MidIs h h'' (.tuple #[.slice v.ptr v.len v.cap, .int .i64 0]) n (allA n eqs (aheadRows p.1.toNat p.2.1.toNat)) (allB w eqs (aheadRows p.1.toNat p.2.1.toNat)) := by
    intro h' pre dead dr X Q H' hQ hs
    refine (put_spec s f p v rs st dd lf wa mo dead vr wr2 mr2 dr pl2 known vals W M X n D.length w H' (St.mk' fun h'' H'' => ⟨H''.box 4 rfl, hQ h'' (H''.at 5 rfl)⟩) (by omega) (by omega) (by omega) ⟨fun _ h => h, T15.way, T15.more⟩ hV2 hvl hlens.1 hlens.2.1 hlens.2.2 hs.1 hs.2.1 hk).mono ?_
    rintro _ h'' ⟨rfl, vr', pl', H'', ip⟩
    refine ⟨rfl, (H''.box 0 rfl).cell rfl, ?_⟩
    obtain ⟨c1, c2⟩ := hto hs
    refine .inl ⟨c1, v, rfl, ?_⟩
    rw [← c2]
    exact (H''.poolRows 4 3 (by decide) rfl rfl ip.1 fun k r l h1 h2 => ip.2 k r l h1 h2).sel [4]
  have H17 : Sp h h11 (MA a dA :: CA b dB :: (Told s f p v rs st dd lf wa mo wr2 mr2 pl2 ++ HA v vr :: [OwnA T_api_Step st 2 stepv ST, OwnA T_int dd 1 intv D, OwnA T_int lf 1 intv L, FixA EltQ 2 qv rs rr R, BoxA f T_gf_Field fieldCells])) := H16
  have hbE := H17.eRd 1 rfl fun _ => rfl
  have hb2 : Rd2 h11 b 1 u8v dB := EltL.toRd2 (by
    have := EltL.impl (α' := Sl) (E := EltC) (E' := EltS 1 u8v) id (fun {h q a b} (hx : EltC.p h q a b) => hx.1) hbE
    rwa [List.map_id] at this)
  have hblen := hb2.len
  refine br_eq (fun e0 => ?_) (fun e0 => ?_)
  · have hD0 : D.length = 0 := by omega
    obtain ⟨br, q1, q2, q3⟩ := EltL.heads hbE
    refine loop_inv (fun i : Nat => (i : Int)) (fun i h' => h' = h11 ∧ i ≤ dB.length ∧ ∀ j (hj : j < dB.length), j < i → dB[j] = zeroB w) (fun i => dB.length - i) 0 rfl ⟨rfl, by omega, fun j _ hj => by omega⟩ ?_
    rintro i h12 ⟨rfl, hi, hz⟩
    have hnone : solves D.length w dA dB [] ↔ ∀ r ∈ dB, r = zeroB w := by rw [hD0]; exact dense_none hdl
    refine br_dec (fun e => ?_) (fun e => ?_)
    · have hi' : i < dB.length := by
        have e' : (i : Int) < (b.len : Int) := e
        omega
      obtain ⟨y1, y2⟩ := q3 i (by omega) hi'
      have hwl : dB[i].length = w := e2 _ (List.getElem_mem _)
      refine q1.getH i rfl (by omega) ?_
      refine (trim_spec (br[i]'(by omega)) dB[i] _ rfl h12 y1 y2 (by omega)).mono ?_
      rintro _ h13 ⟨⟨t, rfl, ht⟩, rfl⟩
      refine ⟨t, rfl, br_dec (fun e3 => ?_) (fun e3 => ?_)⟩
      · refine .inr ⟨fun hc => ?_, rfl, H17.sel []⟩
        have hsv := hof hc
        have hDn : D = [] := List.length_eq_zero_iff.1 hD0
        rw [hDn] at hsv
        have := (dense_none hdl).1 hsv _ (List.getElem_mem hi')
        have h0 : t.len = 0 := ht.2 fun x hx => by rw [this] at hx; exact (List.mem_replicate.1 hx).2
        omega
      · have h0 : t.len = 0 := by omega
        refine ⟨i + 1, by rw [Go.Vc.wrap_small _ (by omega) (by omega)]; rfl, ⟨rfl, by omega, fun j hj hji => ?_⟩, by omega⟩
        by_cases hh : j = i
        · subst hh
          exact List.eq_replicate_iff.2 ⟨hwl, ht.1 h0⟩
        · exact hz j hj (by omega)
    · have hs : solves D.length w dA dB [] := hnone.2 fun r hr => by
        obtain ⟨j, hj, rfl⟩ := List.getElem_of_mem hr
        have e' : ¬ (i : Int) < (b.len : Int) := e
        exact hz j hj (by omega)
      have H18 := SpB.comp (H17.sel [2, 3, 4, 5, 6, 7, 8, 9, 10, 11]) (Sp.one (h := h12) (h' := h12) (A := emp) (Pres.refl _ _) trivial)
      refine (hput (pre := []) (dead := ⟨none, 0, 0⟩) (dr := []) (X := []) (Q := emp) ?_ (fun h' _ => ⟨Seq.nil _ _ _ _ _ _, rfl, fun k r l h1 _ => by cases h1⟩) hs).mono ?_
      · exact H18
      · rintro _ h13 ⟨rfl, hc, hm⟩
        exact ⟨(), rfl, s, rfl, v, hc, hm⟩
  · have hD1 : 1 ≤ D.length := by omega
    refine ⟨s, rfl, some f, (H17.box 2 rfl).cell0 rfl, ?_⟩
    refine (solveG_spec f a b dA dB dA.length D.length w h11 (H17.box 11 rfl) (H17.rd2 0 rfl) hb2 rfl hdl.symm e1 e2 hD1 (by omega) (by omega) hrk).mono ?_
    rintro _ h12 (⟨hc, r, rfl, R12⟩ | ⟨hc, rfl, R12⟩)
    · refine ⟨(r, 0), rfl, br_ne (fun e => absurd rfl e) fun _ => ?_⟩
      have H18 := (H17.comp R12).rowsE 12 rfl
      obtain ⟨dr, H19⟩ := SpB.eFix H18 12 rfl fun _ => rfl
      have hs := sol_solves hdl e1 e2 hrk hc
      refine (hput (pre := []) (dead := r) (dr := dr) (X := solB D.length dA dB) (Q := FixA (EltS 1 u8v) 1 slv r dr (solB D.length dA dB)) (H19.sel [2, 3, 4, 5, 6, 7, 8, 9, 10, 11, 12]) (fun h' x => ⟨x.1, x.2.1, x.2.2⟩) hs).mono ?_
      rintro _ h13 ⟨rfl, hc, hm⟩
      exact ⟨(), rfl, s, rfl, v, hc, hm⟩
    · refine ⟨(⟨none, 0, 0⟩, 10), rfl, br_ne (fun _ => ?_) (fun e => absurd e (by decide))⟩
      exact .inr ⟨fun hh => hc (hdc.2 hh), rfl, (H17.up R12.pres).sel []⟩
end Go.Proofs.YtkcplnfomahleaaGreatDoor
