/-
  NARROWER THAN 'FOR EVERY INPUT', by the rows' own cells (each row's printed sentence says how): ScrubLeast: laid · AuditLoses: laid · ScrubMends: laid · ScrubHolds: laid.
  DERIVED. THE GIVEN ROWS OF THIS SEAT. 4 by the template 'for every input the law returns true; each argument reads behind the call as it read before'; 0 by the template 'total and deterministic' (their statements: YtdibhfbogjngkaaGreatDoorTotals.lean).
  GIVEN WITH THE SEED: the statements are not yours to turn. If you find one false, say at which input.
  Laid BY PROGRAM, IN A SANDBOX (cutbox-rows.mjs): the forced cells as the released guide's own fill.sh prints them over the translation bec90076add3739e… (all of the seat's roots in one cut). By AI agents, Wed Nov 11 2026. No macro, syntax, notation, axiom, sorry.
-/
import Derived.Test.YtdibhfbogjngkaaGreatDoorChecked
import GoSem.PinnedTables
import GoSem.Claim
import GoSem.ClaimJoined
import GoSem.ClaimMapViews
import Derived.JoinedTies
import Derived.KernelRfl
namespace Go.Proofs.YtdibhfbogjngkaaGreatDoor
/- THE CELL 'sum', in the pinned program and in every row, IS THE sha256 OF THE DUMP (.gsa) THAT YtdibhfbogjngkaaGreatDoorProg.lean LOADS. Nothing in Lean hashes anything: it is a label: what it is worth is what the hold of that sum in a sandbox is worth. -/
noncomputable def Tryz.pinned : Pinned := { name := "ytdibhfbogjngkaagreatdoor", sum := "bec90076add3739ef8da91edf3fb5fac8f0954d89b1b928a9f6da051b0a9b0e1", checked := Tryz.checked }
namespace Rows
def none {H : Type} : Left H := { results := [], args := [] }

/- WHAT THE LISTED PACKAGE-LEVEL VARIABLES READ AS WHEN THE CALL BEGINS. Each datum BY PROGRAM (the guide's laid-datum.mjs) off the statement by which the dump's own 'gosem.cut.vars' lays the variable. In a bare row this is a premise. The card (YtdibhfbogjngkaaGreatDoorCards.lean) ties it to the program's text. -/
def laid_unicode_utf8_acceptRanges {H : Type} : DataW H := .agg [.agg [.lit (.int .u8 128), .lit (.int .u8 191)], .agg [.lit (.int .u8 160), .lit (.int .u8 191)], .agg [.lit (.int .u8 128), .lit (.int .u8 159)], .agg [.lit (.int .u8 144), .lit (.int .u8 191)], .agg [.lit (.int .u8 128), .lit (.int .u8 143)], .agg [.lit (.int .u8 0), .lit (.int .u8 0)], .agg [.lit (.int .u8 0), .lit (.int .u8 0)], .agg [.lit (.int .u8 0), .lit (.int .u8 0)], .agg [.lit (.int .u8 0), .lit (.int .u8 0)], .agg [.lit (.int .u8 0), .lit (.int .u8 0)], .agg [.lit (.int .u8 0), .lit (.int .u8 0)], .agg [.lit (.int .u8 0), .lit (.int .u8 0)], .agg [.lit (.int .u8 0), .lit (.int .u8 0)], .agg [.lit (.int .u8 0), .lit (.int .u8 0)], .agg [.lit (.int .u8 0), .lit (.int .u8 0)], .agg [.lit (.int .u8 0), .lit (.int .u8 0)]]
/-- One of Go's own tables, pinned by name: the form's constant. -/
def laid_unicode_utf8_first : DataW Unit := Go.Pinned.utf8First

/-- 'wellspringlaw31.ScrubLeast': WHATEVER THE INPUT: true; the input reads as it did. -/
def scrubLeastSpec : ChangeSpec := { name := "scrubLeast", fn := fun _ => fun
  | [d1, d2, d3, d4] => { results := [.lit (.bool true)], args := [d1, d2, d3, d4] }
  | _ => none }
def scrubLeastRow : OpenClaim := { program := "ytdibhfbogjngkaagreatdoor", sum := "bec90076add3739ef8da91edf3fb5fac8f0954d89b1b928a9f6da051b0a9b0e1", func := "wellspring/wellspringlaw31.ScrubLeast", spec := "scrubLeast", unfollowed := true, recurses := true, named := ["unicode/utf8.first", "unicode/utf8.acceptRanges"], apart := false, laid := [("unicode/utf8.acceptRanges", laid_unicode_utf8_acceptRanges), ("unicode/utf8.first", laid_unicode_utf8_first)] }
def ScrubLeastSaid : Prop := scrubLeastRow.holds Tryz.pinned (OpenSpec.ofChange scrubLeastSpec)

/-- ITS FALSE NEIGHBOUR: 'it returns false'. Refute it at one input. -/
def scrubLeastWrong : ChangeSpec := { name := "scrubLeast", fn := fun _ => fun
  | [d1, d2, d3, d4] => { results := [.lit (.bool false)], args := [d1, d2, d3, d4] }
  | _ => none }
def ScrubLeastWrongFalsely : Prop := scrubLeastRow.holds Tryz.pinned (OpenSpec.ofChange scrubLeastWrong)

/-- 'wellspringlaw35.AuditLoses': WHATEVER THE INPUT: true; the input reads as it did. -/
def auditLosesSpec : ChangeSpec := { name := "auditLoses", fn := fun _ => fun
  | [d1, d2, d3, d4] => { results := [.lit (.bool true)], args := [d1, d2, d3, d4] }
  | _ => none }
def auditLosesRow : OpenClaim := { program := "ytdibhfbogjngkaagreatdoor", sum := "bec90076add3739ef8da91edf3fb5fac8f0954d89b1b928a9f6da051b0a9b0e1", func := "wellspring/wellspringlaw35.AuditLoses", spec := "auditLoses", unfollowed := true, recurses := true, named := ["unicode/utf8.first", "unicode/utf8.acceptRanges"], apart := false, laid := [("unicode/utf8.acceptRanges", laid_unicode_utf8_acceptRanges), ("unicode/utf8.first", laid_unicode_utf8_first)] }
def AuditLosesSaid : Prop := auditLosesRow.holds Tryz.pinned (OpenSpec.ofChange auditLosesSpec)

/-- ITS FALSE NEIGHBOUR: 'it returns false'. Refute it at one input. -/
def auditLosesWrong : ChangeSpec := { name := "auditLoses", fn := fun _ => fun
  | [d1, d2, d3, d4] => { results := [.lit (.bool false)], args := [d1, d2, d3, d4] }
  | _ => none }
def AuditLosesWrongFalsely : Prop := auditLosesRow.holds Tryz.pinned (OpenSpec.ofChange auditLosesWrong)

/-- 'wellspringlaw31.ScrubMends': WHATEVER THE INPUT: true; the input reads as it did. -/
def scrubMendsSpec : ChangeSpec := { name := "scrubMends", fn := fun _ => fun
  | [d1, d2, d3, d4, d5] => { results := [.lit (.bool true)], args := [d1, d2, d3, d4, d5] }
  | _ => none }
def scrubMendsRow : OpenClaim := { program := "ytdibhfbogjngkaagreatdoor", sum := "bec90076add3739ef8da91edf3fb5fac8f0954d89b1b928a9f6da051b0a9b0e1", func := "wellspring/wellspringlaw31.ScrubMends", spec := "scrubMends", unfollowed := true, recurses := true, named := ["unicode/utf8.first", "unicode/utf8.acceptRanges"], apart := false, laid := [("unicode/utf8.acceptRanges", laid_unicode_utf8_acceptRanges), ("unicode/utf8.first", laid_unicode_utf8_first)] }
def ScrubMendsSaid : Prop := scrubMendsRow.holds Tryz.pinned (OpenSpec.ofChange scrubMendsSpec)

/-- ITS FALSE NEIGHBOUR: 'it returns false'. Refute it at one input. -/
def scrubMendsWrong : ChangeSpec := { name := "scrubMends", fn := fun _ => fun
  | [d1, d2, d3, d4, d5] => { results := [.lit (.bool false)], args := [d1, d2, d3, d4, d5] }
  | _ => none }
def ScrubMendsWrongFalsely : Prop := scrubMendsRow.holds Tryz.pinned (OpenSpec.ofChange scrubMendsWrong)

/-- 'wellspringlaw31.ScrubHolds': WHATEVER THE INPUT: true; the input reads as it did. -/
def scrubHoldsSpec : ChangeSpec := { name := "scrubHolds", fn := fun _ => fun
  | [d1, d2, d3, d4] => { results := [.lit (.bool true)], args := [d1, d2, d3, d4] }
  | _ => none }
def scrubHoldsRow : OpenClaim := { program := "ytdibhfbogjngkaagreatdoor", sum := "bec90076add3739ef8da91edf3fb5fac8f0954d89b1b928a9f6da051b0a9b0e1", func := "wellspring/wellspringlaw31.ScrubHolds", spec := "scrubHolds", unfollowed := true, recurses := true, named := ["unicode/utf8.first", "unicode/utf8.acceptRanges"], apart := false, laid := [("unicode/utf8.acceptRanges", laid_unicode_utf8_acceptRanges), ("unicode/utf8.first", laid_unicode_utf8_first)] }
def ScrubHoldsSaid : Prop := scrubHoldsRow.holds Tryz.pinned (OpenSpec.ofChange scrubHoldsSpec)

/-- ITS FALSE NEIGHBOUR: 'it returns false'. Refute it at one input. -/
def scrubHoldsWrong : ChangeSpec := { name := "scrubHolds", fn := fun _ => fun
  | [d1, d2, d3, d4] => { results := [.lit (.bool false)], args := [d1, d2, d3, d4] }
  | _ => none }
def ScrubHoldsWrongFalsely : Prop := scrubHoldsRow.holds Tryz.pinned (OpenSpec.ofChange scrubHoldsWrong)

/- THE SECOND FORM. 'bulk': how many values and letters a reading holds, each counted each time it is reached (what is shared counts as often as it is met; a slice's spare places count too). A statement '..UptoSaid' is the law's where the arguments, and the package variables that the reading takes, are together of bulk at most 1048576: NARROWER than '..Said'. Prove '..Said' where nothing that the law and all that it calls make is longer than what came in: it says more and counts as full. Else prove '..UptoSaid'. A law counts once. -/
mutual
def uptoBulk {H : Type} : DataW H → Nat
  | .lit (.string bytes) => bytes.length + 1
  | .lit _ => 1
  | .nil => 1
  | .ptr d => uptoBulk d + 1
  | .slice elems spare => uptoBulkAll elems + uptoBulkAll spare + 1
  | .agg parts => uptoBulkAll parts + 1
  | .iface _ d => uptoBulk d + 1
  | .map entries => uptoBulkEntries entries + 1
  | .held _ => 1
def uptoBulkAll {H : Type} : List (DataW H) → Nat
  | [] => 0
  | d :: r => uptoBulk d + uptoBulkAll r
def uptoBulkEntries {H : Type} : List (Lit × DataW H) → Nat
  | [] => 0
  | x :: r => uptoBulkEntry x + uptoBulkEntries r
def uptoBulkEntry {H : Type} : Lit × DataW H → Nat
  | (.string bytes, d) => bytes.length + uptoBulk d + 1
  | (_, d) => uptoBulk d + 1
 end
def uptoSmall : (H : Type) → List (DataW H) → Bool := fun _ ds => decide (uptoBulkAll ds ≤ 1048576)
def OpenSpec.upto (s : _root_.Go.ChangeSpec) : _root_.Go.OpenSpec := { _root_.Go.OpenSpec.ofChange s with cond := some uptoSmall }

/-- 'wellspringlaw31.ScrubLeast', WHERE WHAT IT READS IS OF BULK AT MOST 1048576: true; the input reads as it did. -/
def scrubLeastUptoRow : OpenClaim := { program := "ytdibhfbogjngkaagreatdoor", sum := "bec90076add3739ef8da91edf3fb5fac8f0954d89b1b928a9f6da051b0a9b0e1", func := "wellspring/wellspringlaw31.ScrubLeast", spec := "scrubLeast", unfollowed := true, recurses := true, named := ["unicode/utf8.first", "unicode/utf8.acceptRanges"], apart := false, laid := [("unicode/utf8.acceptRanges", laid_unicode_utf8_acceptRanges), ("unicode/utf8.first", laid_unicode_utf8_first)], narrowed := true }
def ScrubLeastUptoSaid : Prop := scrubLeastUptoRow.holds Tryz.pinned (OpenSpec.upto scrubLeastSpec)

/-- 'wellspringlaw35.AuditLoses', WHERE WHAT IT READS IS OF BULK AT MOST 1048576: true; the input reads as it did. -/
def auditLosesUptoRow : OpenClaim := { program := "ytdibhfbogjngkaagreatdoor", sum := "bec90076add3739ef8da91edf3fb5fac8f0954d89b1b928a9f6da051b0a9b0e1", func := "wellspring/wellspringlaw35.AuditLoses", spec := "auditLoses", unfollowed := true, recurses := true, named := ["unicode/utf8.first", "unicode/utf8.acceptRanges"], apart := false, laid := [("unicode/utf8.acceptRanges", laid_unicode_utf8_acceptRanges), ("unicode/utf8.first", laid_unicode_utf8_first)], narrowed := true }
def AuditLosesUptoSaid : Prop := auditLosesUptoRow.holds Tryz.pinned (OpenSpec.upto auditLosesSpec)

/-- 'wellspringlaw31.ScrubMends', WHERE WHAT IT READS IS OF BULK AT MOST 1048576: true; the input reads as it did. -/
def scrubMendsUptoRow : OpenClaim := { program := "ytdibhfbogjngkaagreatdoor", sum := "bec90076add3739ef8da91edf3fb5fac8f0954d89b1b928a9f6da051b0a9b0e1", func := "wellspring/wellspringlaw31.ScrubMends", spec := "scrubMends", unfollowed := true, recurses := true, named := ["unicode/utf8.first", "unicode/utf8.acceptRanges"], apart := false, laid := [("unicode/utf8.acceptRanges", laid_unicode_utf8_acceptRanges), ("unicode/utf8.first", laid_unicode_utf8_first)], narrowed := true }
def ScrubMendsUptoSaid : Prop := scrubMendsUptoRow.holds Tryz.pinned (OpenSpec.upto scrubMendsSpec)

/-- 'wellspringlaw31.ScrubHolds', WHERE WHAT IT READS IS OF BULK AT MOST 1048576: true; the input reads as it did. -/
def scrubHoldsUptoRow : OpenClaim := { program := "ytdibhfbogjngkaagreatdoor", sum := "bec90076add3739ef8da91edf3fb5fac8f0954d89b1b928a9f6da051b0a9b0e1", func := "wellspring/wellspringlaw31.ScrubHolds", spec := "scrubHolds", unfollowed := true, recurses := true, named := ["unicode/utf8.first", "unicode/utf8.acceptRanges"], apart := false, laid := [("unicode/utf8.acceptRanges", laid_unicode_utf8_acceptRanges), ("unicode/utf8.first", laid_unicode_utf8_first)], narrowed := true }
def ScrubHoldsUptoSaid : Prop := scrubHoldsUptoRow.holds Tryz.pinned (OpenSpec.upto scrubHoldsSpec)

end Rows
end Go.Proofs.YtdibhfbogjngkaaGreatDoor
