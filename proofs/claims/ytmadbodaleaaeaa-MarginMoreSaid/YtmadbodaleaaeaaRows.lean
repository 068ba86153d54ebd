/-
  No cell of these rows narrows 'for every input' (looked for: loops, veiled, ifaces, maps, wideKeys, modest, calm, conditions, laid).
  DERIVED. THE GIVEN ROWS OF THIS SEAT. 3 by the template 'for every input the law returns true; each argument reads behind the call as it read before'; 0 by the template 'total and deterministic' (their statements: YtmadbodaleaaeaaTotals.lean).
  GIVEN WITH THE SEED: the statements are not yours to turn. If you find one false, say at which input.
  Laid BY PROGRAM, IN A SANDBOX (cutbox-rows.mjs): the forced cells as the released guide's own fill.sh prints them over the translation 08acaa42fe222966… (all of the seat's roots in one cut). By AI agents, Wed Nov 11 2026. No macro, syntax, notation, axiom, sorry.
-/
import Derived.Test.YtmadbodaleaaeaaChecked
import GoSem.Claim
import GoSem.ClaimJoined
import GoSem.ClaimMapViews
import Derived.JoinedTies
import Derived.KernelRfl
namespace Go.Proofs.Ytmadbodaleaaeaa
/- THE CELL 'sum', in the pinned program and in every row, IS THE sha256 OF THE DUMP (.gsa) THAT YtmadbodaleaaeaaProg.lean LOADS. Nothing in Lean hashes anything: it is a label: what it is worth is what the hold of that sum in a sandbox is worth. -/
noncomputable def Try.pinned : Pinned := { name := "ytmadbodaleaaeaa", sum := "08acaa42fe222966a67fa30d2b9fc9e6b91be364a15a6d40032083fbb3632195", checked := Try.checked }
namespace Rows
def none {H : Type} : Left H := { results := [], args := [] }

/-- 'wellspringlaw27.MarginErrors': WHATEVER THE INPUT: true; the input reads as it did. -/
def marginErrorsSpec : ChangeSpec := { name := "marginErrors", fn := fun _ => fun
  | [d1, d2, d3, d4, d5] => { results := [.lit (.bool true)], args := [d1, d2, d3, d4, d5] }
  | _ => none }
def marginErrorsRow : OpenClaim := { program := "ytmadbodaleaaeaa", sum := "08acaa42fe222966a67fa30d2b9fc9e6b91be364a15a6d40032083fbb3632195", func := "wellspring/wellspringlaw27.MarginErrors", spec := "marginErrors", unfollowed := true, recurses := true, apart := false }
def MarginErrorsSaid : Prop := marginErrorsRow.holds Try.pinned (OpenSpec.ofChange marginErrorsSpec)

/-- ITS FALSE NEIGHBOUR: 'it returns false'. Refute it at one input. -/
def marginErrorsWrong : ChangeSpec := { name := "marginErrors", fn := fun _ => fun
  | [d1, d2, d3, d4, d5] => { results := [.lit (.bool false)], args := [d1, d2, d3, d4, d5] }
  | _ => none }
def MarginErrorsWrongFalsely : Prop := marginErrorsRow.holds Try.pinned (OpenSpec.ofChange marginErrorsWrong)

/-- 'wellspringlaw27.MarginFirst': WHATEVER THE INPUT: true; the input reads as it did. -/
def marginFirstSpec : ChangeSpec := { name := "marginFirst", fn := fun _ => fun
  | [d1, d2, d3, d4, d5, d6, d7] => { results := [.lit (.bool true)], args := [d1, d2, d3, d4, d5, d6, d7] }
  | _ => none }
def marginFirstRow : OpenClaim := { program := "ytmadbodaleaaeaa", sum := "08acaa42fe222966a67fa30d2b9fc9e6b91be364a15a6d40032083fbb3632195", func := "wellspring/wellspringlaw27.MarginFirst", spec := "marginFirst", unfollowed := true, recurses := true, apart := false }
def MarginFirstSaid : Prop := marginFirstRow.holds Try.pinned (OpenSpec.ofChange marginFirstSpec)

/-- ITS FALSE NEIGHBOUR: 'it returns false'. Refute it at one input. -/
def marginFirstWrong : ChangeSpec := { name := "marginFirst", fn := fun _ => fun
  | [d1, d2, d3, d4, d5, d6, d7] => { results := [.lit (.bool false)], args := [d1, d2, d3, d4, d5, d6, d7] }
  | _ => none }
def MarginFirstWrongFalsely : Prop := marginFirstRow.holds Try.pinned (OpenSpec.ofChange marginFirstWrong)

/-- 'wellspringlaw27.MarginMore': WHATEVER THE INPUT: true; the input reads as it did. -/
def marginMoreSpec : ChangeSpec := { name := "marginMore", fn := fun _ => fun
  | [d1, d2, d3, d4, d5, d6, d7, d8] => { results := [.lit (.bool true)], args := [d1, d2, d3, d4, d5, d6, d7, d8] }
  | _ => none }
def marginMoreRow : OpenClaim := { program := "ytmadbodaleaaeaa", sum := "08acaa42fe222966a67fa30d2b9fc9e6b91be364a15a6d40032083fbb3632195", func := "wellspring/wellspringlaw27.MarginMore", spec := "marginMore", unfollowed := true, recurses := true, apart := false }
def MarginMoreSaid : Prop := marginMoreRow.holds Try.pinned (OpenSpec.ofChange marginMoreSpec)

/-- ITS FALSE NEIGHBOUR: 'it returns false'. Refute it at one input. -/
def marginMoreWrong : ChangeSpec := { name := "marginMore", fn := fun _ => fun
  | [d1, d2, d3, d4, d5, d6, d7, d8] => { results := [.lit (.bool false)], args := [d1, d2, d3, d4, d5, d6, d7, d8] }
  | _ => none }
def MarginMoreWrongFalsely : Prop := marginMoreRow.holds Try.pinned (OpenSpec.ofChange marginMoreWrong)

/- THE SECOND FORM. 'bulk': how many values and letters a reading holds, each counted each time it is reached (what is shared counts as often as it is met; a slice's spare places count too). A statement '..UptoSaid' is the law's where the arguments, and the package variables that the reading takes, are together of bulk at most 1048576: NARROWER than '..Said'. Prove '..Said' where nothing that the law and all that it calls make is longer than what came in: it says more and counts as full. Else prove '..UptoSaid'. A law counts once. -/
mutual
def uptoBulk {H : Type} : DataW H → Nat
  | .lit (.string bytes) => bytes.length + 1
  | .lit _ => 1
  | .nil => 1
  | .ptr d => uptoBulk d + 1
  | .slice elems spare => uptoBulkAll elems + uptoBulkAll spare + 1
  | .agg parts => uptoBulkAll parts + 1
  | .iface _ d => uptoBulk d + 1
  | .map entries => uptoBulkEntries entries + 1
  | .held _ => 1
def uptoBulkAll {H : Type} : List (DataW H) → Nat
  | [] => 0
  | d :: r => uptoBulk d + uptoBulkAll r
def uptoBulkEntries {H : Type} : List (Lit × DataW H) → Nat
  | [] => 0
  | x :: r => uptoBulkEntry x + uptoBulkEntries r
def uptoBulkEntry {H : Type} : Lit × DataW H → Nat
  | (.string bytes, d) => bytes.length + uptoBulk d + 1
  | (_, d) => uptoBulk d + 1
 end
def uptoSmall : (H : Type) → List (DataW H) → Bool := fun _ ds => decide (uptoBulkAll ds ≤ 1048576)
def OpenSpec.upto (s : _root_.Go.ChangeSpec) : _root_.Go.OpenSpec := { _root_.Go.OpenSpec.ofChange s with cond := some uptoSmall }

/-- 'wellspringlaw27.MarginErrors', WHERE WHAT IT READS IS OF BULK AT MOST 1048576: true; the input reads as it did. -/
def marginErrorsUptoRow : OpenClaim := { program := "ytmadbodaleaaeaa", sum := "08acaa42fe222966a67fa30d2b9fc9e6b91be364a15a6d40032083fbb3632195", func := "wellspring/wellspringlaw27.MarginErrors", spec := "marginErrors", unfollowed := true, recurses := true, apart := false, narrowed := true }
def MarginErrorsUptoSaid : Prop := marginErrorsUptoRow.holds Try.pinned (OpenSpec.upto marginErrorsSpec)

/-- 'wellspringlaw27.MarginFirst', WHERE WHAT IT READS IS OF BULK AT MOST 1048576: true; the input reads as it did. -/
def marginFirstUptoRow : OpenClaim := { program := "ytmadbodaleaaeaa", sum := "08acaa42fe222966a67fa30d2b9fc9e6b91be364a15a6d40032083fbb3632195", func := "wellspring/wellspringlaw27.MarginFirst", spec := "marginFirst", unfollowed := true, recurses := true, apart := false, narrowed := true }
def MarginFirstUptoSaid : Prop := marginFirstUptoRow.holds Try.pinned (OpenSpec.upto marginFirstSpec)

/-- 'wellspringlaw27.MarginMore', WHERE WHAT IT READS IS OF BULK AT MOST 1048576: true; the input reads as it did. -/
def marginMoreUptoRow : OpenClaim := { program := "ytmadbodaleaaeaa", sum := "08acaa42fe222966a67fa30d2b9fc9e6b91be364a15a6d40032083fbb3632195", func := "wellspring/wellspringlaw27.MarginMore", spec := "marginMore", unfollowed := true, recurses := true, apart := false, narrowed := true }
def MarginMoreUptoSaid : Prop := marginMoreUptoRow.holds Try.pinned (OpenSpec.upto marginMoreSpec)

end Rows
end Go.Proofs.Ytmadbodaleaaeaa
