/- Part of the proofs that wellspringlaw30's laws answer true whatever the input reads, and leave it as it was; no condition. -/
import Derived.Test.YtmaknfkhibljfaaGreatHpA
import Derived.Calls
import Derived.Lib.SlicesCompact
set_option linter.unusedVariables false
set_option linter.unusedSimpArgs false
namespace Gf
set_option maxRecDepth 100000
theorem all8 {p : UInt8 → Prop} (h : ∀ n, n < 256 → p (UInt8.ofNat n)) (a : UInt8) : p a := by
  have := h a.toNat (UInt8.toNat_lt a)
  rwa [UInt8.ofNat_toNat] at this
def x2 (a : UInt8) : UInt8 := (a <<< 1) ^^^ (if a &&& 0x80 = 0 then 0 else 0x1b)
def x3 (a : UInt8) : UInt8 := x2 a ^^^ a
def pw : Nat → UInt8
  | 0 => 1
  | n + 1 => x3 (pw n)
def it3 : Nat → UInt8 → UInt8
  | 0, a => a
  | n + 1, a => x3 (it3 n a)
theorem it3_add (a : UInt8) (m : Nat) : ∀ n, it3 (n + m) a = it3 n (it3 m a)
  | 0 => by simp [it3]
  | n + 1 => by rw [Nat.add_right_comm]; simp only [it3, it3_add a m n]
theorem pw_it3 : ∀ n, pw n = it3 n 1
  | 0 => rfl
  | n + 1 => by rw [pw, it3, pw_it3 n]
def logs : Nat := 939374623831894136699086600277250597547650664638770418422125146541797353646788332867483593573384618611044815625336497665827114626705134492515730415652478061620339993830966980270842846318821775850471098591710629241171812800746666233448222972174585295916389942636813666312872914849454985560152530477328703759683306625234997237483834721220409437442253146756845415190424543171129629468776480674528486868811725071010351012234056630775688111116293610821126543142160426617079940511630006820862697466582575257349116925728488930366609138264019883664906661504235885380294353134295748489096855100647154935187045898006656778240
def lg (a : UInt8) : Nat := (logs >>> (8 * a.toNat)) % 256
theorem pw_lg : ∀ a : UInt8, a ≠ 0 → pw (lg a) = a := all8 (by decide +kernel)
theorem lg_pw : ∀ n, n < 255 → lg (pw n) = n := by decide +kernel
theorem pw_255 : pw 255 = 1 := by decide +kernel
theorem pw_ne : ∀ n, n < 255 → pw n ≠ 0 := by decide +kernel
theorem pw_add255 (n : Nat) : pw (n + 255) = pw n := by
  rw [pw_it3, it3_add, ← pw_it3 255, pw_255, ← pw_it3]
theorem pw_mod (n : Nat) : pw (n % 255) = pw n := by
  have : ∀ k m, pw (m + 255 * k) = pw m := by
    intro k
    induction k with
    | zero => intro m; rfl
    | succ k ih => intro m; rw [Nat.mul_succ, ← Nat.add_assoc, pw_add255, ih]
  have h := this (n / 255) (n % 255)
  rw [Nat.mod_add_div] at h
  exact h.symm
def mul (a b : UInt8) : UInt8 := if a = 0 ∨ b = 0 then 0 else pw ((lg a + lg b) % 255)
theorem mul_zero (a : UInt8) : mul a 0 = 0 := by simp [mul]
theorem zero_mul (a : UInt8) : mul 0 a = 0 := by simp [mul]
theorem mul_comm (a b : UInt8) : mul a b = mul b a := by
  unfold mul
  rw [Nat.add_comm]
  by_cases h : a = 0 ∨ b = 0
  · rw [if_pos h, if_pos h.symm]
  · rw [if_neg h, if_neg fun x => h x.symm]
theorem mul_ne {a b : UInt8} (ha : a ≠ 0) (hb : b ≠ 0) : mul a b ≠ 0 := by
  rw [mul, if_neg (by simp [ha, hb])]
  exact pw_ne _ (Nat.mod_lt _ (by decide))
theorem lg_mul {a b : UInt8} (ha : a ≠ 0) (hb : b ≠ 0) : lg (mul a b) = (lg a + lg b) % 255 := by
  rw [mul, if_neg (by simp [ha, hb]), lg_pw _ (Nat.mod_lt _ (by decide))]
theorem mul_assoc (a b c : UInt8) : mul (mul a b) c = mul a (mul b c) := by
  by_cases ha : a = 0
  · subst ha; simp [zero_mul]
  by_cases hb : b = 0
  · subst hb; simp [zero_mul, mul_zero]
  by_cases hc : c = 0
  · subst hc; simp [mul_zero]
  rw [mul, if_neg (by simp [mul_ne ha hb, hc]), lg_mul ha hb, mul, if_neg (by simp [ha, mul_ne hb hc]), lg_mul hb hc]
  congr 1
  omega
theorem lg_one : lg 1 = 0 := by decide +kernel
theorem one_mul (a : UInt8) : mul 1 a = a := by
  by_cases ha : a = 0
  · subst ha; rfl
  · rw [mul, if_neg (by simp [ha]), lg_one, Nat.zero_add, pw_mod, pw_lg a ha]
theorem mul_one (a : UInt8) : mul a 1 = a := by rw [mul_comm, one_mul]
end Gf
namespace Wl
def mayP (p : Int × Int × Int) : Bool := decide (p.1 ≥ 1) && (decide (p.1 ≤ 16) && (decide (p.2.1 ≥ 1) && (decide (p.2.1 ≤ 4) && (decide (p.2.2 ≥ 1) && decide (p.2.2 ≤ 24)))))
theorem mayP_iff (p : Int × Int × Int) : mayP p = true ↔ (1 ≤ p.1 ∧ p.1 ≤ 16) ∧ (1 ≤ p.2.1 ∧ p.2.1 ≤ 4) ∧ 1 ≤ p.2.2 ∧ p.2.2 ≤ 24 := by
  simp [mayP, and_assoc]
end Wl
namespace Wl
open Go
def nxt (s : Int) : Int := IntKind.wrap .u64 (IntKind.wrap .u64 (s * (6364136223846793005 : Int)) + (1442695040888963407 : Int))
def told (s : Int) : Int := IntKind.wrap .u32 (Int.fdiv (nxt s) (2 ^ min (32 : Int).toNat (IntKind.bits .u64)))
def sortI (l : List Int) : List Int := l.mergeSort fun x y => decide (x ≤ y)
theorem sortI_len (l : List Int) : (sortI l).length = l.length := List.length_mergeSort l
theorem sortI_mem (l : List Int) (x : Int) : x ∈ sortI l ↔ x ∈ l := List.mem_mergeSort
end Wl
namespace Wl
end Wl
namespace Wl
abbrev Row := List UInt8
abbrev Mat := List Row
end Wl
namespace Wl
structure Pow where
  off : Bool
  fuse : Option Nat
  offs : Int
def Pow.new : Pow := ⟨false, none, 0⟩
def Pow.step (w : Pow) : Bool × Pow :=
  if w.off then (false, w) else match w.fuse with
  | none => (true, w)
  | some 0 => (false, ⟨true, some 0, Go.IntKind.wrap .i64 (w.offs + 1)⟩)
  | some (k + 1) => (true, ⟨false, some k, w.offs⟩)
def Pow.arm (w : Pow) (n : Int) : Pow := if w.off then w else ⟨false, if 0 ≤ n then some n.toNat else none, w.offs⟩
structure Drv where
  room : Nat
  l : List (List UInt8)
  wait : Nat
  laid : List (List UInt8)
  has : Bool
  lost : Bool
def Drv.new (room : Nat) : Drv := ⟨room, [], 0, [], false, false⟩
def Drv.append (w : Pow) (d : Drv) (b : List UInt8) : Int × Pow × Drv :=
  if b.length ≠ 64 then (1, w, d)
  else if d.lost then (5, w, d)
  else if d.room ≤ d.l.length then (7, w, d)
  else if w.off then (14, w, d)
  else if w.step.1 then (0, w.step.2, { d with l := d.l ++ [b], wait := d.wait + 1, laid := [], has := false })
  else (14, w.step.2, { d with l := d.l ++ [b], wait := d.wait + 1 })
def Drv.sync (w : Pow) (d : Drv) : Int × Pow × Drv :=
  if d.lost then (5, w, d)
  else if w.step.1 then (0, w.step.2, { d with wait := 0, laid := [], has := false })
  else (14, w.step.2, d)
def Drv.rewrite (w : Pow) (d : Drv) (l : List (List UInt8)) : Int × Pow × Drv :=
  if !l.all (fun b => decide (b.length = 64)) then (1, w, d)
  else if d.lost then (5, w, d)
  else if d.room < l.length then (7, w, d)
  else if w.off then (14, w, d)
  else if w.step.1 then (0, w.step.2, { d with l := l, wait := 0, laid := [], has := false })
  else (14, w.step.2, { d with laid := l, has := true })
def Drv.lose (d : Drv) : Drv := { d with lost := true, l := [], wait := 0, laid := [], has := false }
abbrev Drvs := List (Option Drv)
def dAt (ds : Drvs) (slot : Int) : Option Drv := if 0 ≤ slot ∧ slot < 64 then (ds[slot.toNat]?).join else none
def dSet (ds : Drvs) (slot : Int) (d : Drv) : Drvs := ds.set slot.toNat (some d)
def isLive (ds : Drvs) (slot : Int) : Bool := match dAt ds slot with | some d => !d.lost | none => false
def liveOf (ds : Drvs) (slots : List Int) : List Int := slots.filter (isLive ds)
def appendAt (w : Pow) (ds : Drvs) (slot : Int) (b : List UInt8) : Int × Pow × Drvs :=
  match dAt ds slot with
  | none => (if b.length ≠ 64 then 1 else 5, w, ds)
  | some d => ((d.append w b).1, (d.append w b).2.1, dSet ds slot (d.append w b).2.2)
def syncAt (w : Pow) (ds : Drvs) (slot : Int) : Int × Pow × Drvs :=
  match dAt ds slot with
  | none => (5, w, ds)
  | some d => ((d.sync w).1, (d.sync w).2.1, dSet ds slot (d.sync w).2.2)
def appends : List (Int × List UInt8) → Pow → Drvs → Int × Pow × Drvs
  | [], w, ds => (0, w, ds)
  | x :: l, w, ds => let r := appendAt w ds x.1 x.2; if r.1 = 0 then appends l r.2.1 r.2.2 else r
def syncs : List Int → Pow → Drvs → Int × Pow × Drvs
  | [], w, ds => (0, w, ds)
  | x :: l, w, ds => let r := syncAt w ds x; if r.1 = 0 then syncs l r.2.1 r.2.2 else r
theorem syncs_cons (x : Int) (l : List Int) (w : Pow) (ds : Drvs) : syncs (x :: l) w ds = if (syncAt w ds x).1 = 0 then syncs l (syncAt w ds x).2.1 (syncAt w ds x).2.2 else syncAt w ds x := rfl
theorem appends_cons (x : Int × List UInt8) (l : List (Int × List UInt8)) (w : Pow) (ds : Drvs) : appends (x :: l) w ds = if (appendAt w ds x.1 x.2).1 = 0 then appends l (appendAt w ds x.1 x.2).2.1 (appendAt w ds x.1 x.2).2.2 else appendAt w ds x.1 x.2 := rfl
def slotsUp (l : List Int) : List Int := ((List.range 64).map fun i : Nat => (i : Int)).filter fun i => decide (i ∈ l)
def layAll (l : List (Int × List UInt8)) (w : Pow) (ds : Drvs) : Int × Pow × Drvs :=
  let r := appends l w ds
  if r.1 = 0 then syncs (slotsUp (l.map Prod.fst)) r.2.1 r.2.2 else r
end Wl
namespace Wl
open Go
def b8 (n : Int) : UInt8 := UInt8.ofNat (n % 256).toNat
theorem b8_wrap (n : Int) : IntKind.wrap .u8 n = ((b8 n).toNat : Int) := by
  have h0 := Int.emod_nonneg n (show (256 : Int) ≠ 0 by decide)
  have h1 := Int.emod_lt_of_pos n (show (0 : Int) < 256 by decide)
  have e : ((b8 n).toNat : Int) = n % 256 := by
    unfold b8
    rw [UInt8.toNat_ofNat']
    omega
  rw [e]
  unfold IntKind.wrap
  simp [IntKind.bits, IntKind.signed]
abbrev W32 := BitVec 32
def crcBit (s : W32) : W32 := if s &&& 1#32 = 1#32 then (s >>> 1) ^^^ 3988292384#32 else s >>> 1
def crcBits : Nat → W32 → W32
  | 0, s => s
  | n + 1, s => crcBit (crcBits n s)
def crcByte (s : W32) (x : UInt8) : W32 := crcBits 8 (s ^^^ BitVec.ofNat 32 x.toNat)
def crcGo (l : List UInt8) : W32 := l.foldl crcByte 4294967295#32
def crcAll (l : List UInt8) : W32 := 4294967295#32 ^^^ crcGo l
theorem crcGo_snoc (l : List UInt8) (x : UInt8) : crcGo (l ++ [x]) = crcByte (crcGo l) x := by unfold crcGo; rw [List.foldl_append]; rfl
theorem w32_wrap (s : W32) : IntKind.wrap .u32 ((s.toNat : Nat) : Int) = (s.toNat : Int) := by
  have := s.isLt
  unfold IntKind.wrap
  simp [IntKind.bits, IntKind.signed]
  omega
theorem xor32 (a b : W32) : IntKind.wrap .u32 ((BitVec.ofInt (IntKind.bits .u32) (a.toNat : Int) ^^^ BitVec.ofInt (IntKind.bits .u32) (b.toNat : Int)).toNat : Nat) = ((a ^^^ b).toNat : Int) := by
  show IntKind.wrap .u32 (((BitVec.ofInt 32 (a.toNat : Int) ^^^ BitVec.ofInt 32 (b.toNat : Int) : BitVec 32).toNat : Nat) : Int) = _
  rw [BitVec.ofInt_natCast, BitVec.ofInt_natCast, BitVec.ofNat_toNat, BitVec.ofNat_toNat, BitVec.setWidth_eq, BitVec.setWidth_eq, w32_wrap]
theorem and32 (a b : W32) : IntKind.wrap .u32 ((BitVec.ofInt (IntKind.bits .u32) (a.toNat : Int) &&& BitVec.ofInt (IntKind.bits .u32) (b.toNat : Int)).toNat : Nat) = ((a &&& b).toNat : Int) := by
  show IntKind.wrap .u32 (((BitVec.ofInt 32 (a.toNat : Int) &&& BitVec.ofInt 32 (b.toNat : Int) : BitVec 32).toNat : Nat) : Int) = _
  rw [BitVec.ofInt_natCast, BitVec.ofInt_natCast, BitVec.ofNat_toNat, BitVec.ofNat_toNat, BitVec.setWidth_eq, BitVec.setWidth_eq, w32_wrap]
theorem w32_wrapI (n : Int) : IntKind.wrap .u32 n = ((BitVec.ofInt 32 n).toNat : Int) := by
  unfold IntKind.wrap
  simp [IntKind.bits, IntKind.signed, BitVec.toNat_ofInt]
  omega
theorem w32_shr (s : W32) : Int.fdiv (s.toNat : Int) (2 ^ min (1 : Int).toNat (IntKind.bits .u32)) = ((s >>> 1).toNat : Int) := by
  rw [show min (1 : Int).toNat (IntKind.bits .u32) = 1 from rfl, Int.fdiv_eq_ediv_of_nonneg _ (by decide), BitVec.toNat_ushiftRight, Nat.shiftRight_eq_div_pow]
  simp
theorem w32_low (s : W32) : ((s &&& 1#32).toNat : Int) = 1 ↔ s &&& 1#32 = 1#32 := by
  constructor
  · intro h
    apply BitVec.eq_of_toNat_eq
    have : (1#32 : W32).toNat = 1 := rfl
    omega
  · intro h; rw [h]; rfl
def low4 (s : W32) : List UInt8 := (List.range 4).map fun i => b8 (Int.fdiv (s.toNat : Int) (2 ^ (8 * i)))
theorem low4_len (s : W32) : (low4 s).length = 4 := by simp [low4]
def cellHead (kind : Int) (body : List UInt8) : List UInt8 := [87, 115, 1, b8 kind] ++ body ++ List.replicate (55 - body.length) 0
def putCell (kind : Int) (body : List UInt8) : List UInt8 :=
  if 1 ≤ kind ∧ kind ≤ 255 ∧ body.length ≤ 55 then cellHead kind body ++ low4 (crcAll (cellHead kind body)) ++ [165] else []
theorem cellHead_len {kind : Int} {body : List UInt8} (h : body.length ≤ 55) : (cellHead kind body).length = 59 := by simp [cellHead]; omega
theorem putCell_len {kind : Int} {body : List UInt8} (h1 : 1 ≤ kind) (h2 : kind ≤ 255) (h3 : body.length ≤ 55) : (putCell kind body).length = 64 := by
  unfold putCell; rw [if_pos ⟨h1, h2, h3⟩]; simp [cellHead_len h3, low4_len]
end Wl
namespace Wl
open Go
structure Ent where
  name : ByteArray
  object : Int
  length : Int
  tries : List Int
structure Mani where
  seq : Int
  next : Int
  p : Int × Int × Int
  extra : Int
  drives : List Int
  objs : List Ent
def noEnt : Ent := ⟨⟨#[]⟩, 0, 0, []⟩
def entAt (l : List Ent) (i : Nat) : Ent := l.getD i noEnt
theorem entAt_lt {l : List Ent} {i : Nat} (h : i < l.length) : entAt l i = l[i] := by unfold entAt; rw [List.getD_eq_getElem?_getD, List.getElem?_eq_getElem h]; rfl
def inB (n a b : Int) : Bool := decide (a ≤ n) && decide (n ≤ b)
def nameCh (c : UInt8) : Bool := (decide (97 ≤ c.toNat) && decide (c.toNat ≤ 122)) || (decide (48 ≤ c.toNat) && decide (c.toNat ≤ 57)) || decide (c.toNat = 45)
def nameB (s : ByteArray) : Bool := s.data.toList.all nameCh && (decide (1 ≤ s.size) && decide (s.size ≤ 12))
def nameLt (a b : ByteArray) : Bool := Op.bytesLess a.toList b.toList
def riseAt (l : List Int) (most : Int) (i : Nat) : Bool := inB (l.getD i 0) 0 most && (decide (i = 0) || decide (l.getD (i - 1) 0 < l.getD i 0))
def riseB (l : List Int) (most : Int) : Bool := (List.range l.length).all (riseAt l most)
def countP (p : Int × Int × Int) (n : Int) : Int := if mayP p && decide (0 < n) then (n - 1) / (p.1 * p.2.2) + 1 else 0
def entryB (m : Mani) (x : Ent) : Bool :=
  nameB x.name && (inB x.object 0 (m.next - 1) && (inB x.length 0 (m.p.1 * m.p.2.2 * 8) && (x.tries.all (inB · 0 15) && decide ((x.tries.length : Int) = countP m.p x.length))))
def objAt (m : Mani) (i : Nat) : Bool :=
  entryB m (entAt m.objs i) && ((decide (i = 0) || nameLt (entAt m.objs (i - 1)).name (entAt m.objs i).name) && !(m.objs.take i).any fun y => decide (y.object = (entAt m.objs i).object))
def headB (m : Mani) : Bool := inB m.seq 1 2147483647 && (inB m.next 0 16777216 && (mayP m.p && inB m.extra 0 16))
def mayM (m : Mani) : Bool := headB m && (riseB m.drives 63 && (decide (m.objs.length ≤ 12) && (List.range m.objs.length).all (objAt m)))
theorem all_range_no {p : Nat → Bool} {n i : Nat} (hi : i < n) (h : p i = false) : (List.range n).all p = false := List.all_eq_false.2 ⟨i, List.mem_range.2 hi, by rw [h]; simp⟩
theorem all_range_yes {p : Nat → Bool} {n : Nat} (h : ∀ i, i < n → p i = true) : (List.range n).all p = true := List.all_eq_true.2 fun i hi => h i (List.mem_range.1 hi)
def highB (n : Int) (k : Nat) : List UInt8 := (List.range k).map fun i => b8 (Int.fdiv n (2 ^ (8 * (k - 1 - i))))
theorem highB_len (n : Int) (k : Nat) : (highB n k).length = k := by simp [highB]
def packE (x : Ent) : List UInt8 := b8 x.name.size :: (x.name.data.toList ++ (highB x.object 3 ++ (highB x.length 2 ++ x.tries.map b8)))
def packM (m : Mani) : List UInt8 :=
  if mayM m then highB m.seq 4 ++ (highB m.next 4 ++ ([b8 m.p.1, b8 m.p.2.1, b8 m.p.2.2, b8 m.extra, b8 m.drives.length] ++ (m.drives.map b8 ++ (b8 m.objs.length :: m.objs.flatMap packE)))) else []
def putPage (seq number many : Int) (b : List UInt8) : List UInt8 := putCell 2 (highB seq 4 ++ ([b8 number, b8 many, b8 b.length] ++ b))
def manyP (b : List UInt8) : Nat := (b.length + 47) / 48
def splitM (m : Mani) : List (List UInt8) := (List.range (manyP (packM m))).map fun i : Nat => putPage m.seq i (manyP (packM m)) (((packM m).drop (48 * i)).take 48)
theorem mayM_head {m : Mani} (h : mayM m = true) : headB m = true := by unfold mayM at h; simp at h; exact h.1
theorem head_iff {m : Mani} (h : headB m = true) : (1 ≤ m.seq ∧ m.seq ≤ 2147483647) ∧ (0 ≤ m.next ∧ m.next ≤ 16777216) ∧ mayP m.p = true ∧ 0 ≤ m.extra ∧ m.extra ≤ 16 := by
  unfold headB inB at h; simpa [and_assoc] using h
theorem split_cell {m : Mani} {c : List UInt8} (h : c ∈ splitM m) : c.length = 64 := by
  unfold splitM at h
  obtain ⟨i, _, rfl⟩ := List.mem_map.1 h
  exact putCell_len (by decide) (by decide) (by simp [highB_len]; omega)
end Wl
namespace Wl
open Go
theorem compactUp_sorted (zs : List Int) (hs : zs.Pairwise (· ≤ ·)) : ∀ m, m ≤ zs.length → (Lib.compactUpTo zs.toArray m).Pairwise (· < ·) ∧ (∀ x, x ∈ Lib.compactUpTo zs.toArray m ↔ ∃ j, j < m ∧ zs[j]? = some x)
  | 0, _ => ⟨by simp [Lib.compactUpTo], fun x => by simp [Lib.compactUpTo]⟩
  | m + 1, hm => by
    obtain ⟨h1, h2⟩ := compactUp_sorted zs hs m (by omega)
    have hlt : m < zs.length := by omega
    have hz : zs.toArray[m]! = zs[m] := by simp [hlt]
    rw [Lib.compactUpTo_succ, hz]
    have hle : ∀ j (hj : j < m), zs[j]'(by omega) ≤ zs[m] := fun j hj => List.pairwise_iff_getElem.1 hs j m (by omega) hlt hj
    by_cases hk : Lib.keeps zs.toArray m = true
    · rw [if_pos hk]
      have hpm : m = 0 ∨ zs[m - 1]'(by omega) < zs[m] := by
        by_cases hm0 : m = 0
        · exact .inl hm0
        · right
          have hz1 : zs.toArray[m - 1]! = zs[m - 1]'(by omega) := by simp [show m - 1 < zs.length by omega]
          have hne : zs[m] ≠ zs[m - 1]'(by omega) := fun he => by
            have := Lib.keeps_neg (d := zs.toArray) (m := m) (by omega) (by rw [hz, hz1]; exact he)
            rw [this] at hk; cases hk
          have := hle (m - 1) (by omega)
          omega
      have hall : ∀ x ∈ Lib.compactUpTo zs.toArray m, x < zs[m] := fun x hx => by
        obtain ⟨j, hj, hjx⟩ := (h2 x).1 hx
        rw [List.getElem?_eq_getElem (by omega)] at hjx
        injection hjx with hjx
        rcases hpm with h0 | h0
        · omega
        · have h3 : zs[j]'(by omega) ≤ zs[m - 1]'(by omega) := by
            by_cases hjm : j = m - 1
            · subst hjm; exact Int.le_refl _
            · exact List.pairwise_iff_getElem.1 hs j (m - 1) (by omega) (by omega) (by omega)
          omega
      refine ⟨List.pairwise_append.2 ⟨h1, by simp, fun x hx y hy => ?_⟩, fun x => ?_⟩
      · rw [List.mem_singleton.1 hy]; exact hall x hx
      · rw [List.mem_append, h2, List.mem_singleton]
        constructor
        · rintro (⟨j, hj, e⟩ | rfl)
          · exact ⟨j, by omega, e⟩
          · exact ⟨m, by omega, List.getElem?_eq_getElem hlt⟩
        · rintro ⟨j, hj, e⟩
          by_cases hjm : j = m
          · subst hjm; rw [List.getElem?_eq_getElem hlt] at e; injection e with e; exact .inr e.symm
          · exact .inl ⟨j, by omega, e⟩
    · rw [if_neg hk, List.append_nil]
      have hm0 : m ≠ 0 := fun h0 => hk (by subst h0; exact Lib.keeps_lt_one _ 0 (by omega))
      have heq : zs[m] = zs[m - 1]'(by omega) := by
        by_cases he : zs[m] = zs[m - 1]'(by omega)
        · exact he
        · have hz1 : zs.toArray[m - 1]! = zs[m - 1]'(by omega) := by simp [show m - 1 < zs.length by omega]
          exact absurd (Lib.keeps_pos (d := zs.toArray) (m := m) (by rw [hz, hz1]; exact he)) hk
      refine ⟨h1, fun x => ?_⟩
      rw [h2]
      constructor
      · rintro ⟨j, hj, e⟩; exact ⟨j, by omega, e⟩
      · rintro ⟨j, hj, e⟩
        by_cases hjm : j = m
        · subst hjm
          refine ⟨j - 1, by omega, ?_⟩
          rw [List.getElem?_eq_getElem hlt] at e
          rw [List.getElem?_eq_getElem (by omega), ← heq]; exact e
        · exact ⟨j, by omega, e⟩
theorem sortI_sorted (l : List Int) : (sortI l).Pairwise (· ≤ ·) := by
  have := List.pairwise_mergeSort (le := fun x y : Int => decide (x ≤ y)) (by intro a b c h1 h2; simp at h1 h2 ⊢; omega) (by intro a b; simp; omega) l
  exact this.imp fun h => by simpa using h
theorem slotsUp_of (l : List Int) (h : ∀ x ∈ l, 0 ≤ x ∧ x < 64) : Lib.compact (sortI l) = slotsUp l := by
  obtain ⟨h1, h2⟩ := compactUp_sorted (sortI l) (sortI_sorted l) (sortI l).length (Nat.le_refl _)
  have hm : ∀ x, x ∈ Lib.compact (sortI l) ↔ x ∈ l := fun x => by
    unfold Lib.compact
    rw [h2, ← sortI_mem l x, List.mem_iff_getElem?]
    constructor
    · rintro ⟨j, _, e⟩; exact ⟨j, e⟩
    · rintro ⟨j, e⟩; exact ⟨j, (List.getElem?_eq_some_iff.1 e).1, e⟩
  have hu : (slotsUp l).Pairwise (· < ·) := by
    unfold slotsUp
    refine List.Pairwise.filter _ ?_
    rw [List.pairwise_map]
    exact List.pairwise_lt_range.imp fun h => by omega
  have hum : ∀ x, x ∈ slotsUp l ↔ x ∈ l := fun x => by
    unfold slotsUp
    rw [List.mem_filter, List.mem_map]
    constructor
    · rintro ⟨_, h2⟩; simpa using h2
    · intro hx
      obtain ⟨a, b⟩ := h x hx
      exact ⟨⟨x.toNat, List.mem_range.2 (by omega), by omega⟩, by simpa using hx⟩
  have hp : (Lib.compact (sortI l)).Perm (slotsUp l) := (List.perm_ext_iff_of_nodup (h1.imp fun h => by omega) (hu.imp fun h => by omega)).2 fun x => (hm x).trans (hum x).symm
  exact hp.eq_of_pairwise (le := (· < ·)) (fun a b _ _ h1 h2 => by omega) h1 hu
end Wl
namespace Wl
open Go
structure Rcd where
  object : Int
  block : Int
  id : Int
  p : Int × Int × Int
  seed : Int
  data : List UInt8
end Wl
namespace Wl
section
variable {α : Type} (le : α → α → Bool)
def eqvB (a b : α) : Bool := le a b && le b a
def Eqv (l l' : List α) : Prop := ∀ x, l.filter (eqvB le x) = l'.filter (eqvB le x)
def Sd (l : List α) : Prop := l.Pairwise fun a b => le a b = true
structure Ord : Prop where
  trans : ∀ a b c, le a b = true → le b c = true → le a c = true
  total : ∀ a b, (le a b || le b a) = true
variable {le}
theorem Ord.refl (o : Ord le) (a : α) : le a a = true := by have := o.total a a; simpa using this
theorem Eqv.refl (l : List α) : Eqv le l l := fun _ => rfl
theorem Eqv.trans {l1 l2 l3 : List α} (h : Eqv le l1 l2) (k : Eqv le l2 l3) : Eqv le l1 l3 := fun x => (h x).trans (k x)
theorem Eqv.symm {l1 l2 : List α} (h : Eqv le l1 l2) : Eqv le l2 l1 := fun x => (h x).symm
theorem Eqv.app {a b c d : List α} (h : Eqv le a b) (k : Eqv le c d) : Eqv le (a ++ c) (b ++ d) := fun x => by
  rw [List.filter_append, List.filter_append, h x, k x]
theorem Sd.app (o : Ord le) {u v : List α} (hu : Sd le u) (hv : Sd le v) (h : ∀ x ∈ u, ∀ y ∈ v, le x y = true) : Sd le (u ++ v) := List.pairwise_append.2 ⟨hu, hv, h⟩
theorem Sd.right {u v : List α} (h : Sd le (u ++ v)) : Sd le v := (List.pairwise_append.1 h).2.1
theorem Sd.at_ (o : Ord le) {l : List α} (h : Sd le l) {i j : Nat} (hij : i ≤ j) (hj : j < l.length) : le (l[i]'(by omega)) l[j] = true := by
  by_cases e : i = j
  · subst e; exact o.refl _
  · exact List.pairwise_iff_getElem.1 h i j (by omega) hj (by omega)
end
end Wl
namespace Wl
section
variable {α : Type} {le : α → α → Bool}
end
end Wl
