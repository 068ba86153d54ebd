/-
  NARROWER THAN 'FOR EVERY INPUT', by the rows' own cells (each row's printed sentence says how): DecodeEnough: laid · DecodeTells: laid · DecodeBack: laid · DecodeOrder: laid · DecodeClash: laid · DecoderPlays: laid.
  DERIVED. THE GIVEN ROWS OF THIS SEAT. 6 by the template 'for every input the law returns true; each argument reads behind the call as it read before'; 0 by the template 'total and deterministic' (their statements: YtkcplnfomahleaaGreatDoorTotals.lean).
  GIVEN WITH THE SEED: the statements are not yours to turn. If you find one false, say at which input.
  Laid BY PROGRAM, IN A SANDBOX (cutbox-rows.mjs): the forced cells as the released guide's own fill.sh prints them over the translation 7926d4790e00d22b… (all of the seat's roots in one cut). By AI agents, Wed Nov 11 2026. No macro, syntax, notation, axiom, sorry.
-/
import Derived.Test.YtkcplnfomahleaaGreatDoorChecked
import GoSem.PinnedTables
import GoSem.Claim
import GoSem.ClaimJoined
import GoSem.ClaimMapViews
import Derived.JoinedTies
import Derived.KernelRfl
namespace Go.Proofs.YtkcplnfomahleaaGreatDoor
/- THE CELL 'sum', in the pinned program and in every row, IS THE sha256 OF THE DUMP (.gsa) THAT YtkcplnfomahleaaGreatDoorProg.lean LOADS. Nothing in Lean hashes anything: it is a label: what it is worth is what the hold of that sum in a sandbox is worth. -/
noncomputable def Tryz.pinned : Pinned := { name := "ytkcplnfomahleaagreatdoor", sum := "7926d4790e00d22bbd139443a5481e74159308ee8142c87764aba408387ddb1d", checked := Tryz.checked }
namespace Rows
def none {H : Type} : Left H := { results := [], args := [] }

/- WHAT THE LISTED PACKAGE-LEVEL VARIABLES READ AS WHEN THE CALL BEGINS. Each datum BY PROGRAM (the guide's laid-datum.mjs) off the statement by which the dump's own 'gosem.cut.vars' lays the variable. In a bare row this is a premise. The card (YtkcplnfomahleaaGreatDoorCards.lean) ties it to the program's text. -/
def laid_unicode_utf8_acceptRanges {H : Type} : DataW H := .agg [.agg [.lit (.int .u8 128), .lit (.int .u8 191)], .agg [.lit (.int .u8 160), .lit (.int .u8 191)], .agg [.lit (.int .u8 128), .lit (.int .u8 159)], .agg [.lit (.int .u8 144), .lit (.int .u8 191)], .agg [.lit (.int .u8 128), .lit (.int .u8 143)], .agg [.lit (.int .u8 0), .lit (.int .u8 0)], .agg [.lit (.int .u8 0), .lit (.int .u8 0)], .agg [.lit (.int .u8 0), .lit (.int .u8 0)], .agg [.lit (.int .u8 0), .lit (.int .u8 0)], .agg [.lit (.int .u8 0), .lit (.int .u8 0)], .agg [.lit (.int .u8 0), .lit (.int .u8 0)], .agg [.lit (.int .u8 0), .lit (.int .u8 0)], .agg [.lit (.int .u8 0), .lit (.int .u8 0)], .agg [.lit (.int .u8 0), .lit (.int .u8 0)], .agg [.lit (.int .u8 0), .lit (.int .u8 0)], .agg [.lit (.int .u8 0), .lit (.int .u8 0)]]
/-- One of Go's own tables, pinned by name: the form's constant. -/
def laid_unicode_utf8_first : DataW Unit := Go.Pinned.utf8First

/-- 'wellspringlaw14.DecodeEnough': WHATEVER THE INPUT: true; the input reads as it did. -/
def decodeEnoughSpec : ChangeSpec := { name := "decodeEnough", fn := fun _ => fun
  | [d1, d2, d3, d4, d5, d6] => { results := [.lit (.bool true)], args := [d1, d2, d3, d4, d5, d6] }
  | _ => none }
def decodeEnoughRow : OpenClaim := { program := "ytkcplnfomahleaagreatdoor", sum := "7926d4790e00d22bbd139443a5481e74159308ee8142c87764aba408387ddb1d", func := "wellspring/wellspringlaw14.DecodeEnough", spec := "decodeEnough", unfollowed := true, recurses := true, named := ["unicode/utf8.first", "unicode/utf8.acceptRanges"], apart := false, laid := [("unicode/utf8.acceptRanges", laid_unicode_utf8_acceptRanges), ("unicode/utf8.first", laid_unicode_utf8_first)] }
def DecodeEnoughSaid : Prop := decodeEnoughRow.holds Tryz.pinned (OpenSpec.ofChange decodeEnoughSpec)

/-- ITS FALSE NEIGHBOUR: 'it returns false'. Refute it at one input. -/
def decodeEnoughWrong : ChangeSpec := { name := "decodeEnough", fn := fun _ => fun
  | [d1, d2, d3, d4, d5, d6] => { results := [.lit (.bool false)], args := [d1, d2, d3, d4, d5, d6] }
  | _ => none }
def DecodeEnoughWrongFalsely : Prop := decodeEnoughRow.holds Tryz.pinned (OpenSpec.ofChange decodeEnoughWrong)

/-- 'wellspringlaw14.DecodeTells': WHATEVER THE INPUT: true; the input reads as it did. -/
def decodeTellsSpec : ChangeSpec := { name := "decodeTells", fn := fun _ => fun
  | [d1, d2, d3, d4, d5, d6, d7, d8, d9] => { results := [.lit (.bool true)], args := [d1, d2, d3, d4, d5, d6, d7, d8, d9] }
  | _ => none }
def decodeTellsRow : OpenClaim := { program := "ytkcplnfomahleaagreatdoor", sum := "7926d4790e00d22bbd139443a5481e74159308ee8142c87764aba408387ddb1d", func := "wellspring/wellspringlaw14.DecodeTells", spec := "decodeTells", unfollowed := true, recurses := true, named := ["unicode/utf8.first", "unicode/utf8.acceptRanges"], apart := false, laid := [("unicode/utf8.acceptRanges", laid_unicode_utf8_acceptRanges), ("unicode/utf8.first", laid_unicode_utf8_first)] }
def DecodeTellsSaid : Prop := decodeTellsRow.holds Tryz.pinned (OpenSpec.ofChange decodeTellsSpec)

/-- ITS FALSE NEIGHBOUR: 'it returns false'. Refute it at one input. -/
def decodeTellsWrong : ChangeSpec := { name := "decodeTells", fn := fun _ => fun
  | [d1, d2, d3, d4, d5, d6, d7, d8, d9] => { results := [.lit (.bool false)], args := [d1, d2, d3, d4, d5, d6, d7, d8, d9] }
  | _ => none }
def DecodeTellsWrongFalsely : Prop := decodeTellsRow.holds Tryz.pinned (OpenSpec.ofChange decodeTellsWrong)

/-- 'wellspringlaw14.DecodeBack': WHATEVER THE INPUT: true; the input reads as it did. -/
def decodeBackSpec : ChangeSpec := { name := "decodeBack", fn := fun _ => fun
  | [d1, d2, d3, d4, d5, d6] => { results := [.lit (.bool true)], args := [d1, d2, d3, d4, d5, d6] }
  | _ => none }
def decodeBackRow : OpenClaim := { program := "ytkcplnfomahleaagreatdoor", sum := "7926d4790e00d22bbd139443a5481e74159308ee8142c87764aba408387ddb1d", func := "wellspring/wellspringlaw14.DecodeBack", spec := "decodeBack", unfollowed := true, recurses := true, named := ["unicode/utf8.first", "unicode/utf8.acceptRanges"], apart := false, laid := [("unicode/utf8.acceptRanges", laid_unicode_utf8_acceptRanges), ("unicode/utf8.first", laid_unicode_utf8_first)] }
def DecodeBackSaid : Prop := decodeBackRow.holds Tryz.pinned (OpenSpec.ofChange decodeBackSpec)

/-- ITS FALSE NEIGHBOUR: 'it returns false'. Refute it at one input. -/
def decodeBackWrong : ChangeSpec := { name := "decodeBack", fn := fun _ => fun
  | [d1, d2, d3, d4, d5, d6] => { results := [.lit (.bool false)], args := [d1, d2, d3, d4, d5, d6] }
  | _ => none }
def DecodeBackWrongFalsely : Prop := decodeBackRow.holds Tryz.pinned (OpenSpec.ofChange decodeBackWrong)

/-- 'wellspringlaw14.DecodeOrder': WHATEVER THE INPUT: true; the input reads as it did. -/
def decodeOrderSpec : ChangeSpec := { name := "decodeOrder", fn := fun _ => fun
  | [d1, d2, d3, d4, d5, d6, d7] => { results := [.lit (.bool true)], args := [d1, d2, d3, d4, d5, d6, d7] }
  | _ => none }
def decodeOrderRow : OpenClaim := { program := "ytkcplnfomahleaagreatdoor", sum := "7926d4790e00d22bbd139443a5481e74159308ee8142c87764aba408387ddb1d", func := "wellspring/wellspringlaw14.DecodeOrder", spec := "decodeOrder", unfollowed := true, recurses := true, named := ["unicode/utf8.first", "unicode/utf8.acceptRanges"], apart := false, laid := [("unicode/utf8.acceptRanges", laid_unicode_utf8_acceptRanges), ("unicode/utf8.first", laid_unicode_utf8_first)] }
def DecodeOrderSaid : Prop := decodeOrderRow.holds Tryz.pinned (OpenSpec.ofChange decodeOrderSpec)

/-- ITS FALSE NEIGHBOUR: 'it returns false'. Refute it at one input. -/
def decodeOrderWrong : ChangeSpec := { name := "decodeOrder", fn := fun _ => fun
  | [d1, d2, d3, d4, d5, d6, d7] => { results := [.lit (.bool false)], args := [d1, d2, d3, d4, d5, d6, d7] }
  | _ => none }
def DecodeOrderWrongFalsely : Prop := decodeOrderRow.holds Tryz.pinned (OpenSpec.ofChange decodeOrderWrong)

/-- 'wellspringlaw14.DecodeClash': WHATEVER THE INPUT: true; the input reads as it did. -/
def decodeClashSpec : ChangeSpec := { name := "decodeClash", fn := fun _ => fun
  | [d1, d2, d3, d4, d5, d6, d7, d8] => { results := [.lit (.bool true)], args := [d1, d2, d3, d4, d5, d6, d7, d8] }
  | _ => none }
def decodeClashRow : OpenClaim := { program := "ytkcplnfomahleaagreatdoor", sum := "7926d4790e00d22bbd139443a5481e74159308ee8142c87764aba408387ddb1d", func := "wellspring/wellspringlaw14.DecodeClash", spec := "decodeClash", unfollowed := true, recurses := true, named := ["unicode/utf8.first", "unicode/utf8.acceptRanges"], apart := false, laid := [("unicode/utf8.acceptRanges", laid_unicode_utf8_acceptRanges), ("unicode/utf8.first", laid_unicode_utf8_first)] }
def DecodeClashSaid : Prop := decodeClashRow.holds Tryz.pinned (OpenSpec.ofChange decodeClashSpec)

/-- ITS FALSE NEIGHBOUR: 'it returns false'. Refute it at one input. -/
def decodeClashWrong : ChangeSpec := { name := "decodeClash", fn := fun _ => fun
  | [d1, d2, d3, d4, d5, d6, d7, d8] => { results := [.lit (.bool false)], args := [d1, d2, d3, d4, d5, d6, d7, d8] }
  | _ => none }
def DecodeClashWrongFalsely : Prop := decodeClashRow.holds Tryz.pinned (OpenSpec.ofChange decodeClashWrong)

/-- 'wellspringlaw14.DecoderPlays': WHATEVER THE INPUT: true; the input reads as it did. -/
def decoderPlaysSpec : ChangeSpec := { name := "decoderPlays", fn := fun _ => fun
  | [d1, d2, d3, d4, d5, d6, d7, d8, d9] => { results := [.lit (.bool true)], args := [d1, d2, d3, d4, d5, d6, d7, d8, d9] }
  | _ => none }
def decoderPlaysRow : OpenClaim := { program := "ytkcplnfomahleaagreatdoor", sum := "7926d4790e00d22bbd139443a5481e74159308ee8142c87764aba408387ddb1d", func := "wellspring/wellspringlaw14.DecoderPlays", spec := "decoderPlays", unfollowed := true, recurses := true, named := ["unicode/utf8.first", "unicode/utf8.acceptRanges"], apart := false, laid := [("unicode/utf8.acceptRanges", laid_unicode_utf8_acceptRanges), ("unicode/utf8.first", laid_unicode_utf8_first)] }
def DecoderPlaysSaid : Prop := decoderPlaysRow.holds Tryz.pinned (OpenSpec.ofChange decoderPlaysSpec)

/-- ITS FALSE NEIGHBOUR: 'it returns false'. Refute it at one input. -/
def decoderPlaysWrong : ChangeSpec := { name := "decoderPlays", fn := fun _ => fun
  | [d1, d2, d3, d4, d5, d6, d7, d8, d9] => { results := [.lit (.bool false)], args := [d1, d2, d3, d4, d5, d6, d7, d8, d9] }
  | _ => none }
def DecoderPlaysWrongFalsely : Prop := decoderPlaysRow.holds Tryz.pinned (OpenSpec.ofChange decoderPlaysWrong)

/- THE SECOND FORM. 'bulk': how many values and letters a reading holds, each counted each time it is reached (what is shared counts as often as it is met; a slice's spare places count too). A statement '..UptoSaid' is the law's where the arguments, and the package variables that the reading takes, are together of bulk at most 1048576: NARROWER than '..Said'. Prove '..Said' where nothing that the law and all that it calls make is longer than what came in: it says more and counts as full. Else prove '..UptoSaid'. A law counts once. -/
mutual
def uptoBulk {H : Type} : DataW H → Nat
  | .lit (.string bytes) => bytes.length + 1
  | .lit _ => 1
  | .nil => 1
  | .ptr d => uptoBulk d + 1
  | .slice elems spare => uptoBulkAll elems + uptoBulkAll spare + 1
  | .agg parts => uptoBulkAll parts + 1
  | .iface _ d => uptoBulk d + 1
  | .map entries => uptoBulkEntries entries + 1
  | .held _ => 1
def uptoBulkAll {H : Type} : List (DataW H) → Nat
  | [] => 0
  | d :: r => uptoBulk d + uptoBulkAll r
def uptoBulkEntries {H : Type} : List (Lit × DataW H) → Nat
  | [] => 0
  | x :: r => uptoBulkEntry x + uptoBulkEntries r
def uptoBulkEntry {H : Type} : Lit × DataW H → Nat
  | (.string bytes, d) => bytes.length + uptoBulk d + 1
  | (_, d) => uptoBulk d + 1
 end
def uptoSmall : (H : Type) → List (DataW H) → Bool := fun _ ds => decide (uptoBulkAll ds ≤ 1048576)
def OpenSpec.upto (s : _root_.Go.ChangeSpec) : _root_.Go.OpenSpec := { _root_.Go.OpenSpec.ofChange s with cond := some uptoSmall }

/-- 'wellspringlaw14.DecodeEnough', WHERE WHAT IT READS IS OF BULK AT MOST 1048576: true; the input reads as it did. -/
def decodeEnoughUptoRow : OpenClaim := { program := "ytkcplnfomahleaagreatdoor", sum := "7926d4790e00d22bbd139443a5481e74159308ee8142c87764aba408387ddb1d", func := "wellspring/wellspringlaw14.DecodeEnough", spec := "decodeEnough", unfollowed := true, recurses := true, named := ["unicode/utf8.first", "unicode/utf8.acceptRanges"], apart := false, laid := [("unicode/utf8.acceptRanges", laid_unicode_utf8_acceptRanges), ("unicode/utf8.first", laid_unicode_utf8_first)], narrowed := true }
def DecodeEnoughUptoSaid : Prop := decodeEnoughUptoRow.holds Tryz.pinned (OpenSpec.upto decodeEnoughSpec)

/-- 'wellspringlaw14.DecodeTells', WHERE WHAT IT READS IS OF BULK AT MOST 1048576: true; the input reads as it did. -/
def decodeTellsUptoRow : OpenClaim := { program := "ytkcplnfomahleaagreatdoor", sum := "7926d4790e00d22bbd139443a5481e74159308ee8142c87764aba408387ddb1d", func := "wellspring/wellspringlaw14.DecodeTells", spec := "decodeTells", unfollowed := true, recurses := true, named := ["unicode/utf8.first", "unicode/utf8.acceptRanges"], apart := false, laid := [("unicode/utf8.acceptRanges", laid_unicode_utf8_acceptRanges), ("unicode/utf8.first", laid_unicode_utf8_first)], narrowed := true }
def DecodeTellsUptoSaid : Prop := decodeTellsUptoRow.holds Tryz.pinned (OpenSpec.upto decodeTellsSpec)

/-- 'wellspringlaw14.DecodeBack', WHERE WHAT IT READS IS OF BULK AT MOST 1048576: true; the input reads as it did. -/
def decodeBackUptoRow : OpenClaim := { program := "ytkcplnfomahleaagreatdoor", sum := "7926d4790e00d22bbd139443a5481e74159308ee8142c87764aba408387ddb1d", func := "wellspring/wellspringlaw14.DecodeBack", spec := "decodeBack", unfollowed := true, recurses := true, named := ["unicode/utf8.first", "unicode/utf8.acceptRanges"], apart := false, laid := [("unicode/utf8.acceptRanges", laid_unicode_utf8_acceptRanges), ("unicode/utf8.first", laid_unicode_utf8_first)], narrowed := true }
def DecodeBackUptoSaid : Prop := decodeBackUptoRow.holds Tryz.pinned (OpenSpec.upto decodeBackSpec)

/-- 'wellspringlaw14.DecodeOrder', WHERE WHAT IT READS IS OF BULK AT MOST 1048576: true; the input reads as it did. -/
def decodeOrderUptoRow : OpenClaim := { program := "ytkcplnfomahleaagreatdoor", sum := "7926d4790e00d22bbd139443a5481e74159308ee8142c87764aba408387ddb1d", func := "wellspring/wellspringlaw14.DecodeOrder", spec := "decodeOrder", unfollowed := true, recurses := true, named := ["unicode/utf8.first", "unicode/utf8.acceptRanges"], apart := false, laid := [("unicode/utf8.acceptRanges", laid_unicode_utf8_acceptRanges), ("unicode/utf8.first", laid_unicode_utf8_first)], narrowed := true }
def DecodeOrderUptoSaid : Prop := decodeOrderUptoRow.holds Tryz.pinned (OpenSpec.upto decodeOrderSpec)

/-- 'wellspringlaw14.DecodeClash', WHERE WHAT IT READS IS OF BULK AT MOST 1048576: true; the input reads as it did. -/
def decodeClashUptoRow : OpenClaim := { program := "ytkcplnfomahleaagreatdoor", sum := "7926d4790e00d22bbd139443a5481e74159308ee8142c87764aba408387ddb1d", func := "wellspring/wellspringlaw14.DecodeClash", spec := "decodeClash", unfollowed := true, recurses := true, named := ["unicode/utf8.first", "unicode/utf8.acceptRanges"], apart := false, laid := [("unicode/utf8.acceptRanges", laid_unicode_utf8_acceptRanges), ("unicode/utf8.first", laid_unicode_utf8_first)], narrowed := true }
def DecodeClashUptoSaid : Prop := decodeClashUptoRow.holds Tryz.pinned (OpenSpec.upto decodeClashSpec)

/-- 'wellspringlaw14.DecoderPlays', WHERE WHAT IT READS IS OF BULK AT MOST 1048576: true; the input reads as it did. -/
def decoderPlaysUptoRow : OpenClaim := { program := "ytkcplnfomahleaagreatdoor", sum := "7926d4790e00d22bbd139443a5481e74159308ee8142c87764aba408387ddb1d", func := "wellspring/wellspringlaw14.DecoderPlays", spec := "decoderPlays", unfollowed := true, recurses := true, named := ["unicode/utf8.first", "unicode/utf8.acceptRanges"], apart := false, laid := [("unicode/utf8.acceptRanges", laid_unicode_utf8_acceptRanges), ("unicode/utf8.first", laid_unicode_utf8_first)], narrowed := true }
def DecoderPlaysUptoSaid : Prop := decoderPlaysUptoRow.holds Tryz.pinned (OpenSpec.upto decoderPlaysSpec)

end Rows
end Go.Proofs.YtkcplnfomahleaaGreatDoor
