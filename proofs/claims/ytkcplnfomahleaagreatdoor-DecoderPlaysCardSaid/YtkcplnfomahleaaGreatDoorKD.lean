/- Part of the proofs that wellspringlaw14's laws answer true whatever the input reads, and leave it as it was; no condition. -/
import Derived.Test.YtkcplnfomahleaaGreatDoorKC
set_option linter.unusedVariables false
set_option linter.unusedSimpArgs false
namespace Go.Proofs.YtkcplnfomahleaaGreatDoor
open Go Go.Vc Go.Proofs Wl
set_option maxRecDepth 100000
theorem SpB.ownY {B : Blocks} {h0 h : Heap} {As : List HP} {e : Nat} {r : Sl} {l : Row} (H : SpB B h0 h As) (i : Nat) (hi : As[i]? = some (OwnA e r 1 u8v l)) (id : Int) : SpB B h0 h (As.set i (EA EltY (id, r) (id, l))) :=
  H.weak i hi fun q ⟨a, b⟩ => ⟨rfl, a.seq (fun _ => rfl) b⟩
theorem symbols_spec {p : Pm} {seed : Int} {d : Row} {K Hh w n : Nat} (B : BlkOk p seed d K Hh w n) (b : Addr) (ids : Sl) (il : List Int) (most : Nat) (h : Heap) (hb : BlkA h b p seed (midP p seed d)) (hi : Rd h ids 1 intv il) (hm : most ≤ 100) :
    Meets Tryz.prog wellspringlaw14_Symbols_id #[.pointer (some b), .slice ids.ptr ids.len ids.cap, .int .i64 most] h fun v h' => ∃ o : Sl, v = .slice o.ptr o.len o.cap ∧ Sp h h' [RowsE T_api_Symbol o 2 yv EltY (trueSyms p seed (midP p seed d) ((il.take most).map (· % 60)))] := by
  refine wellspringlaw14_Symbols_run (some b) ids _ ?_
  unfold wellspringlaw14_Symbols_m
  have hil := hi.len
  refine join_in ?_
  refine loop_inv (fun t : Nat × Sl => (t.2, (t.1 : Int))) (fun t h' => t.1 ≤ il.length ∧ t.1 ≤ most ∧ Sp h h' [RowsE T_api_Symbol t.2 2 yv EltY (trueSyms p seed (midP p seed d) ((il.take t.1).map (· % 60)))]) (fun t => il.length - t.1) (0, ⟨none, 0, 0⟩) rfl ⟨by simp, by simp, (Sp.refl h).eNil T_api_Symbol 2 yv EltY⟩ ?_
  rintro ⟨i, o⟩ h1 ⟨h1l, h1m, H1⟩
  dsimp only at *
  have done : (¬ i < il.length ∨ ¬ i < most) → ∃ o' : Sl, Value.slice o.ptr o.len o.cap = .slice o'.ptr o'.len o'.cap ∧ Sp h h1 [RowsE T_api_Symbol o' 2 yv EltY (trueSyms p seed (midP p seed d) ((il.take most).map (· % 60)))] := fun hh => by
    have e : il.take i = il.take most := by
      rcases hh with hh | hh
      · rw [List.take_of_length_le (by omega), List.take_of_length_le (by omega)]
      · rw [show i = most by omega]
    exact ⟨o, rfl, by rw [← e]; exact H1⟩
  refine join_in (br_dec (fun e => br_dec (fun e2 => ?_) (fun e2 => ?_)) (fun e => ?_))
  · have hi' : i < il.length := by omega
    refine (Seq.up hi H1.pres).get1 i rfl hi' _ rfl ?_
    refine (within_spec il[i] 60 h1 (by decide) (by decide)).mono ?_
    rintro _ h2 ⟨rfl, rfl⟩
    have hr0 := Int.emod_nonneg il[i] (show (60 : Int) ≠ 0 by decide)
    have hr1 := Int.emod_lt_of_pos il[i] (show (0 : Int) < 60 by decide)
    refine ⟨_, rfl, (B.symbol b (il[i] % 60) h2 (hb.up H1.pres)).mono ?_⟩
    rintro _ h3 ⟨r, rfl, R3⟩
    have hmi : mayID (il[i] % 60) = true := by unfold mayID; simp; omega
    rw [hmi, if_pos rfl] at R3
    have H3 := SpB.ownY (H1.comp R3) 1 rfl (il[i] % 60)
    refine ⟨r, rfl, ?_⟩
    have hlen : (trueSyms p seed (midP p seed d) ((il.take i).map (· % 60))).length = i := by simp [trueSyms]; omega
    refine H3.ePush C_ok 0 1 (by decide) rfl rfl eSym rfl (by decide) (fun _ => rfl) one_yv rfl (by decide) (by omega) fun o' h4 H4 => ?_
    refine ⟨(i + 1, o'), by dsimp only; rw [Go.Vc.wrap_small _ (by omega) (by omega)]; rfl, ⟨by dsimp only; omega, by dsimp only; omega, ?_⟩, by dsimp only; omega⟩
    dsimp only
    have e5 : trueSyms p seed (midP p seed d) ((il.take (i + 1)).map (· % 60)) = trueSyms p seed (midP p seed d) ((il.take i).map (· % 60)) ++ [(il[i] % 60, symB w (midP p seed d) (colsI n seed (il[i] % 60)))] := by
      rw [take_snoc _ _ hi']
      simp only [trueSyms, List.map_append, List.map_cons, List.map_nil, B.size, B.colsN]
    rw [e5]
    exact H4.sel [0]
  · exact done (.inr (by omega))
  · exact done (.inl (by omega))
theorem syms_mid (il : List Int) (k : Nat) : ∀ i ∈ (il.take k).map (· % 60), mayID i = true := fun i hi => by
  obtain ⟨x, _, rfl⟩ := List.mem_map.1 hi
  have hr0 := Int.emod_nonneg x (show (60 : Int) ≠ 0 by decide)
  have hr1 := Int.emod_lt_of_pos x (show (0 : Int) < 60 by decide)
  unfold mayID; simp; omega
end Go.Proofs.YtkcplnfomahleaaGreatDoor
