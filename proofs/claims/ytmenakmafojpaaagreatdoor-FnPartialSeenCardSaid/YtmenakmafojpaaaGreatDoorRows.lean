/-
  NARROWER THAN 'FOR EVERY INPUT', by the rows' own cells (each row's printed sentence says how): FnStartOrder: laid · FnAttrsOf: laid · FnImportOne: laid · FnImportOneMissing: laid · FnFirstFailure: laid · FnPartialSeen: laid · FnReachOfRun: laid · FnIsSimple: laid.
  DERIVED. THE GIVEN ROWS OF THIS SEAT. 8 by the template 'for every input the law returns true; each argument reads behind the call as it read before'; 0 by the template 'total and deterministic' (their statements: YtmenakmafojpaaaGreatDoorTotals.lean).
  GIVEN WITH THE SEED: the statements are not yours to turn. If you find one false, say at which input.
  Laid BY PROGRAM, IN A SANDBOX (cutbox-rows.mjs): the forced cells as the released guide's own fill.sh prints them over the translation 2344396c60b3aa0f… (all of the seat's roots in one cut). By AI agents, Wed Nov 11 2026. No macro, syntax, notation, axiom, sorry.
-/
import Derived.Test.YtmenakmafojpaaaGreatDoorChecked
import GoSem.PinnedTables
import GoSem.Claim
import GoSem.ClaimJoined
import GoSem.ClaimMapViews
import Derived.JoinedTies
import Derived.KernelRfl
namespace Go.Proofs.YtmenakmafojpaaaGreatDoor
/- THE CELL 'sum', in the pinned program and in every row, IS THE sha256 OF THE DUMP (.gsa) THAT YtmenakmafojpaaaGreatDoorProg.lean LOADS. Nothing in Lean hashes anything: it is a label: what it is worth is what the hold of that sum in a sandbox is worth. -/
noncomputable def Tryz.pinned : Pinned := { name := "ytmenakmafojpaaagreatdoor", sum := "2344396c60b3aa0fa805bcedbb5636120140e08478dced387d868563322a98b8", checked := Tryz.checked }
namespace Rows
def none {H : Type} : Left H := { results := [], args := [] }

/- WHAT THE LISTED PACKAGE-LEVEL VARIABLES READ AS WHEN THE CALL BEGINS. Each datum BY PROGRAM (the guide's laid-datum.mjs) off the statement by which the dump's own 'gosem.cut.vars' lays the variable. In a bare row this is a premise. The card (YtmenakmafojpaaaGreatDoorCards.lean) ties it to the program's text. -/
def laid_unicode_utf8_acceptRanges {H : Type} : DataW H := .agg [.agg [.lit (.int .u8 128), .lit (.int .u8 191)], .agg [.lit (.int .u8 160), .lit (.int .u8 191)], .agg [.lit (.int .u8 128), .lit (.int .u8 159)], .agg [.lit (.int .u8 144), .lit (.int .u8 191)], .agg [.lit (.int .u8 128), .lit (.int .u8 143)], .agg [.lit (.int .u8 0), .lit (.int .u8 0)], .agg [.lit (.int .u8 0), .lit (.int .u8 0)], .agg [.lit (.int .u8 0), .lit (.int .u8 0)], .agg [.lit (.int .u8 0), .lit (.int .u8 0)], .agg [.lit (.int .u8 0), .lit (.int .u8 0)], .agg [.lit (.int .u8 0), .lit (.int .u8 0)], .agg [.lit (.int .u8 0), .lit (.int .u8 0)], .agg [.lit (.int .u8 0), .lit (.int .u8 0)], .agg [.lit (.int .u8 0), .lit (.int .u8 0)], .agg [.lit (.int .u8 0), .lit (.int .u8 0)], .agg [.lit (.int .u8 0), .lit (.int .u8 0)]]
/-- One of Go's own tables, pinned by name: the form's constant. -/
def laid_unicode_utf8_first : DataW Unit := Go.Pinned.utf8First

/-- 'laws.FnStartOrder': WHATEVER THE INPUT: true; the input reads as it did. -/
def fnStartOrderSpec : ChangeSpec := { name := "fnStartOrder", fn := fun _ => fun
  | [d] => { results := [.lit (.bool true)], args := [d] }
  | _ => none }
def fnStartOrderRow : OpenClaim := { program := "ytmenakmafojpaaagreatdoor", sum := "2344396c60b3aa0fa805bcedbb5636120140e08478dced387d868563322a98b8", func := "loop.example/importhouse/laws.FnStartOrder", spec := "fnStartOrder", inPlace := ["internal/bytealg.CountString", "internal/bytealg.IndexByteString", "internal/bytealg.IndexString", "internal/abi.NoEscape", "internal/bytealg.MakeNoZero"], unfollowed := true, recurses := true, named := ["unicode/utf8.first", "unicode/utf8.acceptRanges", "internal/bytealg.MaxLen"], apart := false, laid := [("unicode/utf8.acceptRanges", laid_unicode_utf8_acceptRanges), ("unicode/utf8.first", laid_unicode_utf8_first)] }
def FnStartOrderSaid : Prop := fnStartOrderRow.holds Tryz.pinned (OpenSpec.ofChange fnStartOrderSpec)

/-- ITS FALSE NEIGHBOUR: 'it returns false'. Refute it at one input. -/
def fnStartOrderWrong : ChangeSpec := { name := "fnStartOrder", fn := fun _ => fun
  | [d] => { results := [.lit (.bool false)], args := [d] }
  | _ => none }
def FnStartOrderWrongFalsely : Prop := fnStartOrderRow.holds Tryz.pinned (OpenSpec.ofChange fnStartOrderWrong)

/-- 'laws.FnAttrsOf': WHATEVER THE INPUT: true; the input reads as it did. -/
def fnAttrsOfSpec : ChangeSpec := { name := "fnAttrsOf", fn := fun _ => fun
  | [d] => { results := [.lit (.bool true)], args := [d] }
  | _ => none }
def fnAttrsOfRow : OpenClaim := { program := "ytmenakmafojpaaagreatdoor", sum := "2344396c60b3aa0fa805bcedbb5636120140e08478dced387d868563322a98b8", func := "loop.example/importhouse/laws.FnAttrsOf", spec := "fnAttrsOf", inPlace := ["internal/bytealg.CountString", "internal/bytealg.IndexByteString", "internal/bytealg.IndexString"], unfollowed := true, recurses := true, named := ["unicode/utf8.first", "unicode/utf8.acceptRanges", "internal/bytealg.MaxLen"], apart := false, laid := [("unicode/utf8.acceptRanges", laid_unicode_utf8_acceptRanges), ("unicode/utf8.first", laid_unicode_utf8_first)] }
def FnAttrsOfSaid : Prop := fnAttrsOfRow.holds Tryz.pinned (OpenSpec.ofChange fnAttrsOfSpec)

/-- ITS FALSE NEIGHBOUR: 'it returns false'. Refute it at one input. -/
def fnAttrsOfWrong : ChangeSpec := { name := "fnAttrsOf", fn := fun _ => fun
  | [d] => { results := [.lit (.bool false)], args := [d] }
  | _ => none }
def FnAttrsOfWrongFalsely : Prop := fnAttrsOfRow.holds Tryz.pinned (OpenSpec.ofChange fnAttrsOfWrong)

/-- 'laws.FnImportOne': WHATEVER THE INPUT: true; the input reads as it did. -/
def fnImportOneSpec : ChangeSpec := { name := "fnImportOne", fn := fun _ => fun
  | [d] => { results := [.lit (.bool true)], args := [d] }
  | _ => none }
def fnImportOneRow : OpenClaim := { program := "ytmenakmafojpaaagreatdoor", sum := "2344396c60b3aa0fa805bcedbb5636120140e08478dced387d868563322a98b8", func := "loop.example/importhouse/laws.FnImportOne", spec := "fnImportOne", inPlace := ["internal/bytealg.CountString", "internal/bytealg.IndexByteString", "internal/bytealg.IndexString", "internal/abi.NoEscape", "internal/bytealg.MakeNoZero"], unfollowed := true, recurses := true, named := ["unicode/utf8.first", "unicode/utf8.acceptRanges", "internal/bytealg.MaxLen"], apart := false, laid := [("unicode/utf8.acceptRanges", laid_unicode_utf8_acceptRanges), ("unicode/utf8.first", laid_unicode_utf8_first)] }
def FnImportOneSaid : Prop := fnImportOneRow.holds Tryz.pinned (OpenSpec.ofChange fnImportOneSpec)

/-- ITS FALSE NEIGHBOUR: 'it returns false'. Refute it at one input. -/
def fnImportOneWrong : ChangeSpec := { name := "fnImportOne", fn := fun _ => fun
  | [d] => { results := [.lit (.bool false)], args := [d] }
  | _ => none }
def FnImportOneWrongFalsely : Prop := fnImportOneRow.holds Tryz.pinned (OpenSpec.ofChange fnImportOneWrong)

/-- 'laws.FnImportOneMissing': WHATEVER THE INPUT: true; the input reads as it did. -/
def fnImportOneMissingSpec : ChangeSpec := { name := "fnImportOneMissing", fn := fun _ => fun
  | [d] => { results := [.lit (.bool true)], args := [d] }
  | _ => none }
def fnImportOneMissingRow : OpenClaim := { program := "ytmenakmafojpaaagreatdoor", sum := "2344396c60b3aa0fa805bcedbb5636120140e08478dced387d868563322a98b8", func := "loop.example/importhouse/laws.FnImportOneMissing", spec := "fnImportOneMissing", inPlace := ["internal/bytealg.CountString", "internal/bytealg.IndexByteString", "internal/bytealg.IndexString", "internal/abi.NoEscape", "internal/bytealg.MakeNoZero"], unfollowed := true, recurses := true, named := ["unicode/utf8.first", "unicode/utf8.acceptRanges", "internal/bytealg.MaxLen"], apart := false, laid := [("unicode/utf8.acceptRanges", laid_unicode_utf8_acceptRanges), ("unicode/utf8.first", laid_unicode_utf8_first)] }
def FnImportOneMissingSaid : Prop := fnImportOneMissingRow.holds Tryz.pinned (OpenSpec.ofChange fnImportOneMissingSpec)

/-- ITS FALSE NEIGHBOUR: 'it returns false'. Refute it at one input. -/
def fnImportOneMissingWrong : ChangeSpec := { name := "fnImportOneMissing", fn := fun _ => fun
  | [d] => { results := [.lit (.bool false)], args := [d] }
  | _ => none }
def FnImportOneMissingWrongFalsely : Prop := fnImportOneMissingRow.holds Tryz.pinned (OpenSpec.ofChange fnImportOneMissingWrong)

/-- 'laws.FnFirstFailure': WHATEVER THE INPUT: true; the input reads as it did. -/
def fnFirstFailureSpec : ChangeSpec := { name := "fnFirstFailure", fn := fun _ => fun
  | [d] => { results := [.lit (.bool true)], args := [d] }
  | _ => none }
def fnFirstFailureRow : OpenClaim := { program := "ytmenakmafojpaaagreatdoor", sum := "2344396c60b3aa0fa805bcedbb5636120140e08478dced387d868563322a98b8", func := "loop.example/importhouse/laws.FnFirstFailure", spec := "fnFirstFailure", inPlace := ["internal/bytealg.CountString", "internal/bytealg.IndexByteString", "internal/bytealg.IndexString"], unfollowed := true, recurses := true, named := ["unicode/utf8.first", "unicode/utf8.acceptRanges", "internal/bytealg.MaxLen"], apart := false, laid := [("unicode/utf8.acceptRanges", laid_unicode_utf8_acceptRanges), ("unicode/utf8.first", laid_unicode_utf8_first)] }
def FnFirstFailureSaid : Prop := fnFirstFailureRow.holds Tryz.pinned (OpenSpec.ofChange fnFirstFailureSpec)

/-- ITS FALSE NEIGHBOUR: 'it returns false'. Refute it at one input. -/
def fnFirstFailureWrong : ChangeSpec := { name := "fnFirstFailure", fn := fun _ => fun
  | [d] => { results := [.lit (.bool false)], args := [d] }
  | _ => none }
def FnFirstFailureWrongFalsely : Prop := fnFirstFailureRow.holds Tryz.pinned (OpenSpec.ofChange fnFirstFailureWrong)

/-- 'laws.FnPartialSeen': WHATEVER THE INPUT: true; the input reads as it did. -/
def fnPartialSeenSpec : ChangeSpec := { name := "fnPartialSeen", fn := fun _ => fun
  | [d] => { results := [.lit (.bool true)], args := [d] }
  | _ => none }
def fnPartialSeenRow : OpenClaim := { program := "ytmenakmafojpaaagreatdoor", sum := "2344396c60b3aa0fa805bcedbb5636120140e08478dced387d868563322a98b8", func := "loop.example/importhouse/laws.FnPartialSeen", spec := "fnPartialSeen", inPlace := ["internal/bytealg.CountString", "internal/bytealg.IndexByteString", "internal/bytealg.IndexString"], unfollowed := true, recurses := true, named := ["unicode/utf8.first", "unicode/utf8.acceptRanges", "internal/bytealg.MaxLen"], apart := false, laid := [("unicode/utf8.acceptRanges", laid_unicode_utf8_acceptRanges), ("unicode/utf8.first", laid_unicode_utf8_first)] }
def FnPartialSeenSaid : Prop := fnPartialSeenRow.holds Tryz.pinned (OpenSpec.ofChange fnPartialSeenSpec)

/-- ITS FALSE NEIGHBOUR: 'it returns false'. Refute it at one input. -/
def fnPartialSeenWrong : ChangeSpec := { name := "fnPartialSeen", fn := fun _ => fun
  | [d] => { results := [.lit (.bool false)], args := [d] }
  | _ => none }
def FnPartialSeenWrongFalsely : Prop := fnPartialSeenRow.holds Tryz.pinned (OpenSpec.ofChange fnPartialSeenWrong)

/-- 'laws.FnReachOfRun': WHATEVER THE INPUT: true; the input reads as it did. -/
def fnReachOfRunSpec : ChangeSpec := { name := "fnReachOfRun", fn := fun _ => fun
  | [d] => { results := [.lit (.bool true)], args := [d] }
  | _ => none }
def fnReachOfRunRow : OpenClaim := { program := "ytmenakmafojpaaagreatdoor", sum := "2344396c60b3aa0fa805bcedbb5636120140e08478dced387d868563322a98b8", func := "loop.example/importhouse/laws.FnReachOfRun", spec := "fnReachOfRun", inPlace := ["internal/bytealg.CountString", "internal/bytealg.IndexByteString", "internal/bytealg.IndexString", "internal/abi.NoEscape", "internal/bytealg.MakeNoZero"], unfollowed := true, recurses := true, named := ["unicode/utf8.first", "unicode/utf8.acceptRanges", "internal/bytealg.MaxLen"], apart := false, laid := [("unicode/utf8.acceptRanges", laid_unicode_utf8_acceptRanges), ("unicode/utf8.first", laid_unicode_utf8_first)] }
def FnReachOfRunSaid : Prop := fnReachOfRunRow.holds Tryz.pinned (OpenSpec.ofChange fnReachOfRunSpec)

/-- ITS FALSE NEIGHBOUR: 'it returns false'. Refute it at one input. -/
def fnReachOfRunWrong : ChangeSpec := { name := "fnReachOfRun", fn := fun _ => fun
  | [d] => { results := [.lit (.bool false)], args := [d] }
  | _ => none }
def FnReachOfRunWrongFalsely : Prop := fnReachOfRunRow.holds Tryz.pinned (OpenSpec.ofChange fnReachOfRunWrong)

/-- 'laws.FnIsSimple': WHATEVER THE INPUT: true; the input reads as it did. -/
def fnIsSimpleSpec : ChangeSpec := { name := "fnIsSimple", fn := fun _ => fun
  | [d] => { results := [.lit (.bool true)], args := [d] }
  | _ => none }
def fnIsSimpleRow : OpenClaim := { program := "ytmenakmafojpaaagreatdoor", sum := "2344396c60b3aa0fa805bcedbb5636120140e08478dced387d868563322a98b8", func := "loop.example/importhouse/laws.FnIsSimple", spec := "fnIsSimple", inPlace := ["internal/bytealg.CountString", "internal/bytealg.IndexByteString", "internal/bytealg.IndexString", "internal/abi.NoEscape", "internal/bytealg.MakeNoZero"], unfollowed := true, recurses := true, named := ["unicode/utf8.first", "unicode/utf8.acceptRanges", "internal/bytealg.MaxLen"], apart := false, laid := [("unicode/utf8.acceptRanges", laid_unicode_utf8_acceptRanges), ("unicode/utf8.first", laid_unicode_utf8_first)] }
def FnIsSimpleSaid : Prop := fnIsSimpleRow.holds Tryz.pinned (OpenSpec.ofChange fnIsSimpleSpec)

/-- ITS FALSE NEIGHBOUR: 'it returns false'. Refute it at one input. -/
def fnIsSimpleWrong : ChangeSpec := { name := "fnIsSimple", fn := fun _ => fun
  | [d] => { results := [.lit (.bool false)], args := [d] }
  | _ => none }
def FnIsSimpleWrongFalsely : Prop := fnIsSimpleRow.holds Tryz.pinned (OpenSpec.ofChange fnIsSimpleWrong)

/- THE SECOND FORM. 'bulk': how many values and letters a reading holds, each counted each time it is reached (what is shared counts as often as it is met; a slice's spare places count too). A statement '..UptoSaid' is the law's where the arguments, and the package variables that the reading takes, are together of bulk at most 1048576: NARROWER than '..Said'. Prove '..Said' where nothing that the law and all that it calls make is longer than what came in: it says more and counts as full. Else prove '..UptoSaid'. A law counts once. -/
mutual
def uptoBulk {H : Type} : DataW H → Nat
  | .lit (.string bytes) => bytes.length + 1
  | .lit _ => 1
  | .nil => 1
  | .ptr d => uptoBulk d + 1
  | .slice elems spare => uptoBulkAll elems + uptoBulkAll spare + 1
  | .agg parts => uptoBulkAll parts + 1
  | .iface _ d => uptoBulk d + 1
  | .map entries => uptoBulkEntries entries + 1
  | .held _ => 1
def uptoBulkAll {H : Type} : List (DataW H) → Nat
  | [] => 0
  | d :: r => uptoBulk d + uptoBulkAll r
def uptoBulkEntries {H : Type} : List (Lit × DataW H) → Nat
  | [] => 0
  | x :: r => uptoBulkEntry x + uptoBulkEntries r
def uptoBulkEntry {H : Type} : Lit × DataW H → Nat
  | (.string bytes, d) => bytes.length + uptoBulk d + 1
  | (_, d) => uptoBulk d + 1
 end
def uptoSmall : (H : Type) → List (DataW H) → Bool := fun _ ds => decide (uptoBulkAll ds ≤ 1048576)
def OpenSpec.upto (s : _root_.Go.ChangeSpec) : _root_.Go.OpenSpec := { _root_.Go.OpenSpec.ofChange s with cond := some uptoSmall }

/-- 'laws.FnStartOrder', WHERE WHAT IT READS IS OF BULK AT MOST 1048576: true; the input reads as it did. -/
def fnStartOrderUptoRow : OpenClaim := { program := "ytmenakmafojpaaagreatdoor", sum := "2344396c60b3aa0fa805bcedbb5636120140e08478dced387d868563322a98b8", func := "loop.example/importhouse/laws.FnStartOrder", spec := "fnStartOrder", inPlace := ["internal/bytealg.CountString", "internal/bytealg.IndexByteString", "internal/bytealg.IndexString", "internal/abi.NoEscape", "internal/bytealg.MakeNoZero"], unfollowed := true, recurses := true, named := ["unicode/utf8.first", "unicode/utf8.acceptRanges", "internal/bytealg.MaxLen"], apart := false, laid := [("unicode/utf8.acceptRanges", laid_unicode_utf8_acceptRanges), ("unicode/utf8.first", laid_unicode_utf8_first)], narrowed := true }
def FnStartOrderUptoSaid : Prop := fnStartOrderUptoRow.holds Tryz.pinned (OpenSpec.upto fnStartOrderSpec)

/-- 'laws.FnAttrsOf', WHERE WHAT IT READS IS OF BULK AT MOST 1048576: true; the input reads as it did. -/
def fnAttrsOfUptoRow : OpenClaim := { program := "ytmenakmafojpaaagreatdoor", sum := "2344396c60b3aa0fa805bcedbb5636120140e08478dced387d868563322a98b8", func := "loop.example/importhouse/laws.FnAttrsOf", spec := "fnAttrsOf", inPlace := ["internal/bytealg.CountString", "internal/bytealg.IndexByteString", "internal/bytealg.IndexString"], unfollowed := true, recurses := true, named := ["unicode/utf8.first", "unicode/utf8.acceptRanges", "internal/bytealg.MaxLen"], apart := false, laid := [("unicode/utf8.acceptRanges", laid_unicode_utf8_acceptRanges), ("unicode/utf8.first", laid_unicode_utf8_first)], narrowed := true }
def FnAttrsOfUptoSaid : Prop := fnAttrsOfUptoRow.holds Tryz.pinned (OpenSpec.upto fnAttrsOfSpec)

/-- 'laws.FnImportOne', WHERE WHAT IT READS IS OF BULK AT MOST 1048576: true; the input reads as it did. -/
def fnImportOneUptoRow : OpenClaim := { program := "ytmenakmafojpaaagreatdoor", sum := "2344396c60b3aa0fa805bcedbb5636120140e08478dced387d868563322a98b8", func := "loop.example/importhouse/laws.FnImportOne", spec := "fnImportOne", inPlace := ["internal/bytealg.CountString", "internal/bytealg.IndexByteString", "internal/bytealg.IndexString", "internal/abi.NoEscape", "internal/bytealg.MakeNoZero"], unfollowed := true, recurses := true, named := ["unicode/utf8.first", "unicode/utf8.acceptRanges", "internal/bytealg.MaxLen"], apart := false, laid := [("unicode/utf8.acceptRanges", laid_unicode_utf8_acceptRanges), ("unicode/utf8.first", laid_unicode_utf8_first)], narrowed := true }
def FnImportOneUptoSaid : Prop := fnImportOneUptoRow.holds Tryz.pinned (OpenSpec.upto fnImportOneSpec)

/-- 'laws.FnImportOneMissing', WHERE WHAT IT READS IS OF BULK AT MOST 1048576: true; the input reads as it did. -/
def fnImportOneMissingUptoRow : OpenClaim := { program := "ytmenakmafojpaaagreatdoor", sum := "2344396c60b3aa0fa805bcedbb5636120140e08478dced387d868563322a98b8", func := "loop.example/importhouse/laws.FnImportOneMissing", spec := "fnImportOneMissing", inPlace := ["internal/bytealg.CountString", "internal/bytealg.IndexByteString", "internal/bytealg.IndexString", "internal/abi.NoEscape", "internal/bytealg.MakeNoZero"], unfollowed := true, recurses := true, named := ["unicode/utf8.first", "unicode/utf8.acceptRanges", "internal/bytealg.MaxLen"], apart := false, laid := [("unicode/utf8.acceptRanges", laid_unicode_utf8_acceptRanges), ("unicode/utf8.first", laid_unicode_utf8_first)], narrowed := true }
def FnImportOneMissingUptoSaid : Prop := fnImportOneMissingUptoRow.holds Tryz.pinned (OpenSpec.upto fnImportOneMissingSpec)

/-- 'laws.FnFirstFailure', WHERE WHAT IT READS IS OF BULK AT MOST 1048576: true; the input reads as it did. -/
def fnFirstFailureUptoRow : OpenClaim := { program := "ytmenakmafojpaaagreatdoor", sum := "2344396c60b3aa0fa805bcedbb5636120140e08478dced387d868563322a98b8", func := "loop.example/importhouse/laws.FnFirstFailure", spec := "fnFirstFailure", inPlace := ["internal/bytealg.CountString", "internal/bytealg.IndexByteString", "internal/bytealg.IndexString"], unfollowed := true, recurses := true, named := ["unicode/utf8.first", "unicode/utf8.acceptRanges", "internal/bytealg.MaxLen"], apart := false, laid := [("unicode/utf8.acceptRanges", laid_unicode_utf8_acceptRanges), ("unicode/utf8.first", laid_unicode_utf8_first)], narrowed := true }
def FnFirstFailureUptoSaid : Prop := fnFirstFailureUptoRow.holds Tryz.pinned (OpenSpec.upto fnFirstFailureSpec)

/-- 'laws.FnPartialSeen', WHERE WHAT IT READS IS OF BULK AT MOST 1048576: true; the input reads as it did. -/
def fnPartialSeenUptoRow : OpenClaim := { program := "ytmenakmafojpaaagreatdoor", sum := "2344396c60b3aa0fa805bcedbb5636120140e08478dced387d868563322a98b8", func := "loop.example/importhouse/laws.FnPartialSeen", spec := "fnPartialSeen", inPlace := ["internal/bytealg.CountString", "internal/bytealg.IndexByteString", "internal/bytealg.IndexString"], unfollowed := true, recurses := true, named := ["unicode/utf8.first", "unicode/utf8.acceptRanges", "internal/bytealg.MaxLen"], apart := false, laid := [("unicode/utf8.acceptRanges", laid_unicode_utf8_acceptRanges), ("unicode/utf8.first", laid_unicode_utf8_first)], narrowed := true }
def FnPartialSeenUptoSaid : Prop := fnPartialSeenUptoRow.holds Tryz.pinned (OpenSpec.upto fnPartialSeenSpec)

/-- 'laws.FnReachOfRun', WHERE WHAT IT READS IS OF BULK AT MOST 1048576: true; the input reads as it did. -/
def fnReachOfRunUptoRow : OpenClaim := { program := "ytmenakmafojpaaagreatdoor", sum := "2344396c60b3aa0fa805bcedbb5636120140e08478dced387d868563322a98b8", func := "loop.example/importhouse/laws.FnReachOfRun", spec := "fnReachOfRun", inPlace := ["internal/bytealg.CountString", "internal/bytealg.IndexByteString", "internal/bytealg.IndexString", "internal/abi.NoEscape", "internal/bytealg.MakeNoZero"], unfollowed := true, recurses := true, named := ["unicode/utf8.first", "unicode/utf8.acceptRanges", "internal/bytealg.MaxLen"], apart := false, laid := [("unicode/utf8.acceptRanges", laid_unicode_utf8_acceptRanges), ("unicode/utf8.first", laid_unicode_utf8_first)], narrowed := true }
def FnReachOfRunUptoSaid : Prop := fnReachOfRunUptoRow.holds Tryz.pinned (OpenSpec.upto fnReachOfRunSpec)

/-- 'laws.FnIsSimple', WHERE WHAT IT READS IS OF BULK AT MOST 1048576: true; the input reads as it did. -/
def fnIsSimpleUptoRow : OpenClaim := { program := "ytmenakmafojpaaagreatdoor", sum := "2344396c60b3aa0fa805bcedbb5636120140e08478dced387d868563322a98b8", func := "loop.example/importhouse/laws.FnIsSimple", spec := "fnIsSimple", inPlace := ["internal/bytealg.CountString", "internal/bytealg.IndexByteString", "internal/bytealg.IndexString", "internal/abi.NoEscape", "internal/bytealg.MakeNoZero"], unfollowed := true, recurses := true, named := ["unicode/utf8.first", "unicode/utf8.acceptRanges", "internal/bytealg.MaxLen"], apart := false, laid := [("unicode/utf8.acceptRanges", laid_unicode_utf8_acceptRanges), ("unicode/utf8.first", laid_unicode_utf8_first)], narrowed := true }
def FnIsSimpleUptoSaid : Prop := fnIsSimpleUptoRow.holds Tryz.pinned (OpenSpec.upto fnIsSimpleSpec)

end Rows
end Go.Proofs.YtmenakmafojpaaaGreatDoor
