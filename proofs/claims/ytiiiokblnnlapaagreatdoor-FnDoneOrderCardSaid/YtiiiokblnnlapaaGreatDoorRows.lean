/-
  NARROWER THAN 'FOR EVERY INPUT', by the rows' own cells (each row's printed sentence says how): FnExactFirstFailure: laid · FnDoneOrder: laid · FnRingsOf: laid · FnExactDoneOrder: laid · FnExactStartOrder: laid · FnExactImportOne: laid · FnExactPartialSeen: laid · FnLayersOf: laid · FnExactAttrsOf: laid · FnExactPlainOrder: laid · FnExactLayersOf: laid · FnExactRunCommands: laid.
  DERIVED. THE GIVEN ROWS OF THIS SEAT. 12 by the template 'for every input the law returns true; each argument reads behind the call as it read before'; 0 by the template 'total and deterministic' (their statements: YtiiiokblnnlapaaGreatDoorTotals.lean).
  GIVEN WITH THE SEED: the statements are not yours to turn. If you find one false, say at which input.
  Laid BY PROGRAM, IN A SANDBOX (cutbox-rows.mjs): the forced cells as the released guide's own fill.sh prints them over the translation 299f836e749914d3… (all of the seat's roots in one cut). By AI agents, Wed Nov 11 2026. No macro, syntax, notation, axiom, sorry.
-/
import Derived.Test.YtiiiokblnnlapaaGreatDoorChecked
import GoSem.PinnedTables
import GoSem.Claim
import GoSem.ClaimJoined
import GoSem.ClaimMapViews
import Derived.JoinedTies
import Derived.KernelRfl
namespace Go.Proofs.YtiiiokblnnlapaaGreatDoor
/- THE CELL 'sum', in the pinned program and in every row, IS THE sha256 OF THE DUMP (.gsa) THAT YtiiiokblnnlapaaGreatDoorProg.lean LOADS. Nothing in Lean hashes anything: it is a label: what it is worth is what the hold of that sum in a sandbox is worth. -/
noncomputable def Tryz.pinned : Pinned := { name := "ytiiiokblnnlapaagreatdoor", sum := "299f836e749914d344198fdde174b4950b7a109cae4f0db97fb94393032a25b2", checked := Tryz.checked }
namespace Rows
def none {H : Type} : Left H := { results := [], args := [] }

/- WHAT THE LISTED PACKAGE-LEVEL VARIABLES READ AS WHEN THE CALL BEGINS. Each datum BY PROGRAM (the guide's laid-datum.mjs) off the statement by which the dump's own 'gosem.cut.vars' lays the variable. In a bare row this is a premise. The card (YtiiiokblnnlapaaGreatDoorCards.lean) ties it to the program's text. -/
def laid_unicode_utf8_acceptRanges {H : Type} : DataW H := .agg [.agg [.lit (.int .u8 128), .lit (.int .u8 191)], .agg [.lit (.int .u8 160), .lit (.int .u8 191)], .agg [.lit (.int .u8 128), .lit (.int .u8 159)], .agg [.lit (.int .u8 144), .lit (.int .u8 191)], .agg [.lit (.int .u8 128), .lit (.int .u8 143)], .agg [.lit (.int .u8 0), .lit (.int .u8 0)], .agg [.lit (.int .u8 0), .lit (.int .u8 0)], .agg [.lit (.int .u8 0), .lit (.int .u8 0)], .agg [.lit (.int .u8 0), .lit (.int .u8 0)], .agg [.lit (.int .u8 0), .lit (.int .u8 0)], .agg [.lit (.int .u8 0), .lit (.int .u8 0)], .agg [.lit (.int .u8 0), .lit (.int .u8 0)], .agg [.lit (.int .u8 0), .lit (.int .u8 0)], .agg [.lit (.int .u8 0), .lit (.int .u8 0)], .agg [.lit (.int .u8 0), .lit (.int .u8 0)], .agg [.lit (.int .u8 0), .lit (.int .u8 0)]]
/-- One of Go's own tables, pinned by name: the form's constant. -/
def laid_unicode_utf8_first : DataW Unit := Go.Pinned.utf8First

/-- 'laws.FnExactFirstFailure': WHATEVER THE INPUT: true; the input reads as it did. -/
def fnExactFirstFailureSpec : ChangeSpec := { name := "fnExactFirstFailure", fn := fun _ => fun
  | [d1, d2, d3] => { results := [.lit (.bool true)], args := [d1, d2, d3] }
  | _ => none }
def fnExactFirstFailureRow : OpenClaim := { program := "ytiiiokblnnlapaagreatdoor", sum := "299f836e749914d344198fdde174b4950b7a109cae4f0db97fb94393032a25b2", func := "loop.example/importhouse/laws.FnExactFirstFailure", spec := "fnExactFirstFailure", inPlace := ["internal/bytealg.CountString", "internal/bytealg.IndexByteString", "internal/bytealg.IndexString"], unfollowed := true, recurses := true, named := ["unicode/utf8.first", "unicode/utf8.acceptRanges", "internal/bytealg.MaxLen"], apart := false, laid := [("unicode/utf8.acceptRanges", laid_unicode_utf8_acceptRanges), ("unicode/utf8.first", laid_unicode_utf8_first)] }
def FnExactFirstFailureSaid : Prop := fnExactFirstFailureRow.holds Tryz.pinned (OpenSpec.ofChange fnExactFirstFailureSpec)

/-- ITS FALSE NEIGHBOUR: 'it returns false'. Refute it at one input. -/
def fnExactFirstFailureWrong : ChangeSpec := { name := "fnExactFirstFailure", fn := fun _ => fun
  | [d1, d2, d3] => { results := [.lit (.bool false)], args := [d1, d2, d3] }
  | _ => none }
def FnExactFirstFailureWrongFalsely : Prop := fnExactFirstFailureRow.holds Tryz.pinned (OpenSpec.ofChange fnExactFirstFailureWrong)

/-- 'laws.FnDoneOrder': WHATEVER THE INPUT: true; the input reads as it did. -/
def fnDoneOrderSpec : ChangeSpec := { name := "fnDoneOrder", fn := fun _ => fun
  | [d] => { results := [.lit (.bool true)], args := [d] }
  | _ => none }
def fnDoneOrderRow : OpenClaim := { program := "ytiiiokblnnlapaagreatdoor", sum := "299f836e749914d344198fdde174b4950b7a109cae4f0db97fb94393032a25b2", func := "loop.example/importhouse/laws.FnDoneOrder", spec := "fnDoneOrder", inPlace := ["internal/bytealg.CountString", "internal/bytealg.IndexByteString", "internal/bytealg.IndexString"], unfollowed := true, recurses := true, named := ["unicode/utf8.first", "unicode/utf8.acceptRanges", "internal/bytealg.MaxLen"], apart := false, laid := [("unicode/utf8.acceptRanges", laid_unicode_utf8_acceptRanges), ("unicode/utf8.first", laid_unicode_utf8_first)] }
def FnDoneOrderSaid : Prop := fnDoneOrderRow.holds Tryz.pinned (OpenSpec.ofChange fnDoneOrderSpec)

/-- ITS FALSE NEIGHBOUR: 'it returns false'. Refute it at one input. -/
def fnDoneOrderWrong : ChangeSpec := { name := "fnDoneOrder", fn := fun _ => fun
  | [d] => { results := [.lit (.bool false)], args := [d] }
  | _ => none }
def FnDoneOrderWrongFalsely : Prop := fnDoneOrderRow.holds Tryz.pinned (OpenSpec.ofChange fnDoneOrderWrong)

/-- 'laws.FnRingsOf': WHATEVER THE INPUT: true; the input reads as it did. -/
def fnRingsOfSpec : ChangeSpec := { name := "fnRingsOf", fn := fun _ => fun
  | [d] => { results := [.lit (.bool true)], args := [d] }
  | _ => none }
def fnRingsOfRow : OpenClaim := { program := "ytiiiokblnnlapaagreatdoor", sum := "299f836e749914d344198fdde174b4950b7a109cae4f0db97fb94393032a25b2", func := "loop.example/importhouse/laws.FnRingsOf", spec := "fnRingsOf", inPlace := ["internal/bytealg.CountString", "internal/bytealg.IndexByteString", "internal/bytealg.IndexString", "internal/abi.NoEscape", "internal/bytealg.MakeNoZero"], unfollowed := true, recurses := true, named := ["unicode/utf8.first", "unicode/utf8.acceptRanges", "internal/bytealg.MaxLen"], apart := false, laid := [("unicode/utf8.acceptRanges", laid_unicode_utf8_acceptRanges), ("unicode/utf8.first", laid_unicode_utf8_first)] }
def FnRingsOfSaid : Prop := fnRingsOfRow.holds Tryz.pinned (OpenSpec.ofChange fnRingsOfSpec)

/-- ITS FALSE NEIGHBOUR: 'it returns false'. Refute it at one input. -/
def fnRingsOfWrong : ChangeSpec := { name := "fnRingsOf", fn := fun _ => fun
  | [d] => { results := [.lit (.bool false)], args := [d] }
  | _ => none }
def FnRingsOfWrongFalsely : Prop := fnRingsOfRow.holds Tryz.pinned (OpenSpec.ofChange fnRingsOfWrong)

/-- 'laws.FnExactDoneOrder': WHATEVER THE INPUT: true; the input reads as it did. -/
def fnExactDoneOrderSpec : ChangeSpec := { name := "fnExactDoneOrder", fn := fun _ => fun
  | [d1, d2, d3] => { results := [.lit (.bool true)], args := [d1, d2, d3] }
  | _ => none }
def fnExactDoneOrderRow : OpenClaim := { program := "ytiiiokblnnlapaagreatdoor", sum := "299f836e749914d344198fdde174b4950b7a109cae4f0db97fb94393032a25b2", func := "loop.example/importhouse/laws.FnExactDoneOrder", spec := "fnExactDoneOrder", inPlace := ["internal/bytealg.CountString", "internal/bytealg.IndexByteString", "internal/bytealg.IndexString"], unfollowed := true, recurses := true, named := ["unicode/utf8.first", "unicode/utf8.acceptRanges", "internal/bytealg.MaxLen"], apart := false, laid := [("unicode/utf8.acceptRanges", laid_unicode_utf8_acceptRanges), ("unicode/utf8.first", laid_unicode_utf8_first)] }
def FnExactDoneOrderSaid : Prop := fnExactDoneOrderRow.holds Tryz.pinned (OpenSpec.ofChange fnExactDoneOrderSpec)

/-- ITS FALSE NEIGHBOUR: 'it returns false'. Refute it at one input. -/
def fnExactDoneOrderWrong : ChangeSpec := { name := "fnExactDoneOrder", fn := fun _ => fun
  | [d1, d2, d3] => { results := [.lit (.bool false)], args := [d1, d2, d3] }
  | _ => none }
def FnExactDoneOrderWrongFalsely : Prop := fnExactDoneOrderRow.holds Tryz.pinned (OpenSpec.ofChange fnExactDoneOrderWrong)

/-- 'laws.FnExactStartOrder': WHATEVER THE INPUT: true; the input reads as it did. -/
def fnExactStartOrderSpec : ChangeSpec := { name := "fnExactStartOrder", fn := fun _ => fun
  | [d1, d2, d3] => { results := [.lit (.bool true)], args := [d1, d2, d3] }
  | _ => none }
def fnExactStartOrderRow : OpenClaim := { program := "ytiiiokblnnlapaagreatdoor", sum := "299f836e749914d344198fdde174b4950b7a109cae4f0db97fb94393032a25b2", func := "loop.example/importhouse/laws.FnExactStartOrder", spec := "fnExactStartOrder", inPlace := ["internal/bytealg.CountString", "internal/bytealg.IndexByteString", "internal/bytealg.IndexString"], unfollowed := true, recurses := true, named := ["unicode/utf8.first", "unicode/utf8.acceptRanges", "internal/bytealg.MaxLen"], apart := false, laid := [("unicode/utf8.acceptRanges", laid_unicode_utf8_acceptRanges), ("unicode/utf8.first", laid_unicode_utf8_first)] }
def FnExactStartOrderSaid : Prop := fnExactStartOrderRow.holds Tryz.pinned (OpenSpec.ofChange fnExactStartOrderSpec)

/-- ITS FALSE NEIGHBOUR: 'it returns false'. Refute it at one input. -/
def fnExactStartOrderWrong : ChangeSpec := { name := "fnExactStartOrder", fn := fun _ => fun
  | [d1, d2, d3] => { results := [.lit (.bool false)], args := [d1, d2, d3] }
  | _ => none }
def FnExactStartOrderWrongFalsely : Prop := fnExactStartOrderRow.holds Tryz.pinned (OpenSpec.ofChange fnExactStartOrderWrong)

/-- 'laws.FnExactImportOne': WHATEVER THE INPUT: true; the input reads as it did. -/
def fnExactImportOneSpec : ChangeSpec := { name := "fnExactImportOne", fn := fun _ => fun
  | [d1, d2, d3] => { results := [.lit (.bool true)], args := [d1, d2, d3] }
  | _ => none }
def fnExactImportOneRow : OpenClaim := { program := "ytiiiokblnnlapaagreatdoor", sum := "299f836e749914d344198fdde174b4950b7a109cae4f0db97fb94393032a25b2", func := "loop.example/importhouse/laws.FnExactImportOne", spec := "fnExactImportOne", inPlace := ["internal/bytealg.CountString", "internal/bytealg.IndexByteString", "internal/bytealg.IndexString"], unfollowed := true, recurses := true, named := ["unicode/utf8.first", "unicode/utf8.acceptRanges", "internal/bytealg.MaxLen"], apart := false, laid := [("unicode/utf8.acceptRanges", laid_unicode_utf8_acceptRanges), ("unicode/utf8.first", laid_unicode_utf8_first)] }
def FnExactImportOneSaid : Prop := fnExactImportOneRow.holds Tryz.pinned (OpenSpec.ofChange fnExactImportOneSpec)

/-- ITS FALSE NEIGHBOUR: 'it returns false'. Refute it at one input. -/
def fnExactImportOneWrong : ChangeSpec := { name := "fnExactImportOne", fn := fun _ => fun
  | [d1, d2, d3] => { results := [.lit (.bool false)], args := [d1, d2, d3] }
  | _ => none }
def FnExactImportOneWrongFalsely : Prop := fnExactImportOneRow.holds Tryz.pinned (OpenSpec.ofChange fnExactImportOneWrong)

/-- 'laws.FnExactPartialSeen': WHATEVER THE INPUT: true; the input reads as it did. -/
def fnExactPartialSeenSpec : ChangeSpec := { name := "fnExactPartialSeen", fn := fun _ => fun
  | [d1, d2, d3] => { results := [.lit (.bool true)], args := [d1, d2, d3] }
  | _ => none }
def fnExactPartialSeenRow : OpenClaim := { program := "ytiiiokblnnlapaagreatdoor", sum := "299f836e749914d344198fdde174b4950b7a109cae4f0db97fb94393032a25b2", func := "loop.example/importhouse/laws.FnExactPartialSeen", spec := "fnExactPartialSeen", inPlace := ["internal/bytealg.CountString", "internal/bytealg.IndexByteString", "internal/bytealg.IndexString"], unfollowed := true, recurses := true, named := ["unicode/utf8.first", "unicode/utf8.acceptRanges", "internal/bytealg.MaxLen"], apart := false, laid := [("unicode/utf8.acceptRanges", laid_unicode_utf8_acceptRanges), ("unicode/utf8.first", laid_unicode_utf8_first)] }
def FnExactPartialSeenSaid : Prop := fnExactPartialSeenRow.holds Tryz.pinned (OpenSpec.ofChange fnExactPartialSeenSpec)

/-- ITS FALSE NEIGHBOUR: 'it returns false'. Refute it at one input. -/
def fnExactPartialSeenWrong : ChangeSpec := { name := "fnExactPartialSeen", fn := fun _ => fun
  | [d1, d2, d3] => { results := [.lit (.bool false)], args := [d1, d2, d3] }
  | _ => none }
def FnExactPartialSeenWrongFalsely : Prop := fnExactPartialSeenRow.holds Tryz.pinned (OpenSpec.ofChange fnExactPartialSeenWrong)

/-- 'laws.FnLayersOf': WHATEVER THE INPUT: true; the input reads as it did. -/
def fnLayersOfSpec : ChangeSpec := { name := "fnLayersOf", fn := fun _ => fun
  | [d] => { results := [.lit (.bool true)], args := [d] }
  | _ => none }
def fnLayersOfRow : OpenClaim := { program := "ytiiiokblnnlapaagreatdoor", sum := "299f836e749914d344198fdde174b4950b7a109cae4f0db97fb94393032a25b2", func := "loop.example/importhouse/laws.FnLayersOf", spec := "fnLayersOf", inPlace := ["internal/bytealg.CountString", "internal/bytealg.IndexByteString", "internal/bytealg.IndexString", "internal/abi.NoEscape", "internal/bytealg.MakeNoZero"], unfollowed := true, recurses := true, named := ["unicode/utf8.first", "unicode/utf8.acceptRanges", "internal/bytealg.MaxLen"], apart := false, laid := [("unicode/utf8.acceptRanges", laid_unicode_utf8_acceptRanges), ("unicode/utf8.first", laid_unicode_utf8_first)] }
def FnLayersOfSaid : Prop := fnLayersOfRow.holds Tryz.pinned (OpenSpec.ofChange fnLayersOfSpec)

/-- ITS FALSE NEIGHBOUR: 'it returns false'. Refute it at one input. -/
def fnLayersOfWrong : ChangeSpec := { name := "fnLayersOf", fn := fun _ => fun
  | [d] => { results := [.lit (.bool false)], args := [d] }
  | _ => none }
def FnLayersOfWrongFalsely : Prop := fnLayersOfRow.holds Tryz.pinned (OpenSpec.ofChange fnLayersOfWrong)

/-- 'laws.FnExactAttrsOf': WHATEVER THE INPUT: true; the input reads as it did. -/
def fnExactAttrsOfSpec : ChangeSpec := { name := "fnExactAttrsOf", fn := fun _ => fun
  | [d1, d2, d3] => { results := [.lit (.bool true)], args := [d1, d2, d3] }
  | _ => none }
def fnExactAttrsOfRow : OpenClaim := { program := "ytiiiokblnnlapaagreatdoor", sum := "299f836e749914d344198fdde174b4950b7a109cae4f0db97fb94393032a25b2", func := "loop.example/importhouse/laws.FnExactAttrsOf", spec := "fnExactAttrsOf", inPlace := ["internal/bytealg.CountString", "internal/bytealg.IndexByteString", "internal/bytealg.IndexString"], unfollowed := true, recurses := true, named := ["unicode/utf8.first", "unicode/utf8.acceptRanges", "internal/bytealg.MaxLen"], apart := false, laid := [("unicode/utf8.acceptRanges", laid_unicode_utf8_acceptRanges), ("unicode/utf8.first", laid_unicode_utf8_first)] }
def FnExactAttrsOfSaid : Prop := fnExactAttrsOfRow.holds Tryz.pinned (OpenSpec.ofChange fnExactAttrsOfSpec)

/-- ITS FALSE NEIGHBOUR: 'it returns false'. Refute it at one input. -/
def fnExactAttrsOfWrong : ChangeSpec := { name := "fnExactAttrsOf", fn := fun _ => fun
  | [d1, d2, d3] => { results := [.lit (.bool false)], args := [d1, d2, d3] }
  | _ => none }
def FnExactAttrsOfWrongFalsely : Prop := fnExactAttrsOfRow.holds Tryz.pinned (OpenSpec.ofChange fnExactAttrsOfWrong)

/-- 'laws.FnExactPlainOrder': WHATEVER THE INPUT: true; the input reads as it did. -/
def fnExactPlainOrderSpec : ChangeSpec := { name := "fnExactPlainOrder", fn := fun _ => fun
  | [d1, d2, d3] => { results := [.lit (.bool true)], args := [d1, d2, d3] }
  | _ => none }
def fnExactPlainOrderRow : OpenClaim := { program := "ytiiiokblnnlapaagreatdoor", sum := "299f836e749914d344198fdde174b4950b7a109cae4f0db97fb94393032a25b2", func := "loop.example/importhouse/laws.FnExactPlainOrder", spec := "fnExactPlainOrder", inPlace := ["internal/bytealg.CountString", "internal/bytealg.IndexByteString", "internal/bytealg.IndexString", "internal/abi.NoEscape", "internal/bytealg.MakeNoZero"], unfollowed := true, recurses := true, named := ["unicode/utf8.first", "unicode/utf8.acceptRanges", "internal/bytealg.MaxLen"], apart := false, laid := [("unicode/utf8.acceptRanges", laid_unicode_utf8_acceptRanges), ("unicode/utf8.first", laid_unicode_utf8_first)] }
def FnExactPlainOrderSaid : Prop := fnExactPlainOrderRow.holds Tryz.pinned (OpenSpec.ofChange fnExactPlainOrderSpec)

/-- ITS FALSE NEIGHBOUR: 'it returns false'. Refute it at one input. -/
def fnExactPlainOrderWrong : ChangeSpec := { name := "fnExactPlainOrder", fn := fun _ => fun
  | [d1, d2, d3] => { results := [.lit (.bool false)], args := [d1, d2, d3] }
  | _ => none }
def FnExactPlainOrderWrongFalsely : Prop := fnExactPlainOrderRow.holds Tryz.pinned (OpenSpec.ofChange fnExactPlainOrderWrong)

/-- 'laws.FnExactLayersOf': WHATEVER THE INPUT: true; the input reads as it did. -/
def fnExactLayersOfSpec : ChangeSpec := { name := "fnExactLayersOf", fn := fun _ => fun
  | [d1, d2, d3] => { results := [.lit (.bool true)], args := [d1, d2, d3] }
  | _ => none }
def fnExactLayersOfRow : OpenClaim := { program := "ytiiiokblnnlapaagreatdoor", sum := "299f836e749914d344198fdde174b4950b7a109cae4f0db97fb94393032a25b2", func := "loop.example/importhouse/laws.FnExactLayersOf", spec := "fnExactLayersOf", inPlace := ["internal/bytealg.CountString", "internal/bytealg.IndexByteString", "internal/bytealg.IndexString", "internal/abi.NoEscape", "internal/bytealg.MakeNoZero"], unfollowed := true, recurses := true, named := ["unicode/utf8.first", "unicode/utf8.acceptRanges", "internal/bytealg.MaxLen"], apart := false, laid := [("unicode/utf8.acceptRanges", laid_unicode_utf8_acceptRanges), ("unicode/utf8.first", laid_unicode_utf8_first)] }
def FnExactLayersOfSaid : Prop := fnExactLayersOfRow.holds Tryz.pinned (OpenSpec.ofChange fnExactLayersOfSpec)

/-- ITS FALSE NEIGHBOUR: 'it returns false'. Refute it at one input. -/
def fnExactLayersOfWrong : ChangeSpec := { name := "fnExactLayersOf", fn := fun _ => fun
  | [d1, d2, d3] => { results := [.lit (.bool false)], args := [d1, d2, d3] }
  | _ => none }
def FnExactLayersOfWrongFalsely : Prop := fnExactLayersOfRow.holds Tryz.pinned (OpenSpec.ofChange fnExactLayersOfWrong)

/-- 'laws.FnExactRunCommands': WHATEVER THE INPUT: true; the input reads as it did. -/
def fnExactRunCommandsSpec : ChangeSpec := { name := "fnExactRunCommands", fn := fun _ => fun
  | [d1, d2, d3, d4] => { results := [.lit (.bool true)], args := [d1, d2, d3, d4] }
  | _ => none }
def fnExactRunCommandsRow : OpenClaim := { program := "ytiiiokblnnlapaagreatdoor", sum := "299f836e749914d344198fdde174b4950b7a109cae4f0db97fb94393032a25b2", func := "loop.example/importhouse/laws.FnExactRunCommands", spec := "fnExactRunCommands", inPlace := ["internal/bytealg.CountString", "internal/bytealg.IndexByteString", "internal/bytealg.IndexString"], unfollowed := true, recurses := true, named := ["unicode/utf8.first", "unicode/utf8.acceptRanges", "internal/bytealg.MaxLen"], apart := false, laid := [("unicode/utf8.acceptRanges", laid_unicode_utf8_acceptRanges), ("unicode/utf8.first", laid_unicode_utf8_first)] }
def FnExactRunCommandsSaid : Prop := fnExactRunCommandsRow.holds Tryz.pinned (OpenSpec.ofChange fnExactRunCommandsSpec)

/-- ITS FALSE NEIGHBOUR: 'it returns false'. Refute it at one input. -/
def fnExactRunCommandsWrong : ChangeSpec := { name := "fnExactRunCommands", fn := fun _ => fun
  | [d1, d2, d3, d4] => { results := [.lit (.bool false)], args := [d1, d2, d3, d4] }
  | _ => none }
def FnExactRunCommandsWrongFalsely : Prop := fnExactRunCommandsRow.holds Tryz.pinned (OpenSpec.ofChange fnExactRunCommandsWrong)

/- THE SECOND FORM. 'bulk': how many values and letters a reading holds, each counted each time it is reached (what is shared counts as often as it is met; a slice's spare places count too). A statement '..UptoSaid' is the law's where the arguments, and the package variables that the reading takes, are together of bulk at most 1048576: NARROWER than '..Said'. Prove '..Said' where nothing that the law and all that it calls make is longer than what came in: it says more and counts as full. Else prove '..UptoSaid'. A law counts once. -/
mutual
def uptoBulk {H : Type} : DataW H → Nat
  | .lit (.string bytes) => bytes.length + 1
  | .lit _ => 1
  | .nil => 1
  | .ptr d => uptoBulk d + 1
  | .slice elems spare => uptoBulkAll elems + uptoBulkAll spare + 1
  | .agg parts => uptoBulkAll parts + 1
  | .iface _ d => uptoBulk d + 1
  | .map entries => uptoBulkEntries entries + 1
  | .held _ => 1
def uptoBulkAll {H : Type} : List (DataW H) → Nat
  | [] => 0
  | d :: r => uptoBulk d + uptoBulkAll r
def uptoBulkEntries {H : Type} : List (Lit × DataW H) → Nat
  | [] => 0
  | x :: r => uptoBulkEntry x + uptoBulkEntries r
def uptoBulkEntry {H : Type} : Lit × DataW H → Nat
  | (.string bytes, d) => bytes.length + uptoBulk d + 1
  | (_, d) => uptoBulk d + 1
 end
def uptoSmall : (H : Type) → List (DataW H) → Bool := fun _ ds => decide (uptoBulkAll ds ≤ 1048576)
def OpenSpec.upto (s : _root_.Go.ChangeSpec) : _root_.Go.OpenSpec := { _root_.Go.OpenSpec.ofChange s with cond := some uptoSmall }

/-- 'laws.FnExactFirstFailure', WHERE WHAT IT READS IS OF BULK AT MOST 1048576: true; the input reads as it did. -/
def fnExactFirstFailureUptoRow : OpenClaim := { program := "ytiiiokblnnlapaagreatdoor", sum := "299f836e749914d344198fdde174b4950b7a109cae4f0db97fb94393032a25b2", func := "loop.example/importhouse/laws.FnExactFirstFailure", spec := "fnExactFirstFailure", inPlace := ["internal/bytealg.CountString", "internal/bytealg.IndexByteString", "internal/bytealg.IndexString"], unfollowed := true, recurses := true, named := ["unicode/utf8.first", "unicode/utf8.acceptRanges", "internal/bytealg.MaxLen"], apart := false, laid := [("unicode/utf8.acceptRanges", laid_unicode_utf8_acceptRanges), ("unicode/utf8.first", laid_unicode_utf8_first)], narrowed := true }
def FnExactFirstFailureUptoSaid : Prop := fnExactFirstFailureUptoRow.holds Tryz.pinned (OpenSpec.upto fnExactFirstFailureSpec)

/-- 'laws.FnDoneOrder', WHERE WHAT IT READS IS OF BULK AT MOST 1048576: true; the input reads as it did. -/
def fnDoneOrderUptoRow : OpenClaim := { program := "ytiiiokblnnlapaagreatdoor", sum := "299f836e749914d344198fdde174b4950b7a109cae4f0db97fb94393032a25b2", func := "loop.example/importhouse/laws.FnDoneOrder", spec := "fnDoneOrder", inPlace := ["internal/bytealg.CountString", "internal/bytealg.IndexByteString", "internal/bytealg.IndexString"], unfollowed := true, recurses := true, named := ["unicode/utf8.first", "unicode/utf8.acceptRanges", "internal/bytealg.MaxLen"], apart := false, laid := [("unicode/utf8.acceptRanges", laid_unicode_utf8_acceptRanges), ("unicode/utf8.first", laid_unicode_utf8_first)], narrowed := true }
def FnDoneOrderUptoSaid : Prop := fnDoneOrderUptoRow.holds Tryz.pinned (OpenSpec.upto fnDoneOrderSpec)

/-- 'laws.FnRingsOf', WHERE WHAT IT READS IS OF BULK AT MOST 1048576: true; the input reads as it did. -/
def fnRingsOfUptoRow : OpenClaim := { program := "ytiiiokblnnlapaagreatdoor", sum := "299f836e749914d344198fdde174b4950b7a109cae4f0db97fb94393032a25b2", func := "loop.example/importhouse/laws.FnRingsOf", spec := "fnRingsOf", inPlace := ["internal/bytealg.CountString", "internal/bytealg.IndexByteString", "internal/bytealg.IndexString", "internal/abi.NoEscape", "internal/bytealg.MakeNoZero"], unfollowed := true, recurses := true, named := ["unicode/utf8.first", "unicode/utf8.acceptRanges", "internal/bytealg.MaxLen"], apart := false, laid := [("unicode/utf8.acceptRanges", laid_unicode_utf8_acceptRanges), ("unicode/utf8.first", laid_unicode_utf8_first)], narrowed := true }
def FnRingsOfUptoSaid : Prop := fnRingsOfUptoRow.holds Tryz.pinned (OpenSpec.upto fnRingsOfSpec)

/-- 'laws.FnExactDoneOrder', WHERE WHAT IT READS IS OF BULK AT MOST 1048576: true; the input reads as it did. -/
def fnExactDoneOrderUptoRow : OpenClaim := { program := "ytiiiokblnnlapaagreatdoor", sum := "299f836e749914d344198fdde174b4950b7a109cae4f0db97fb94393032a25b2", func := "loop.example/importhouse/laws.FnExactDoneOrder", spec := "fnExactDoneOrder", inPlace := ["internal/bytealg.CountString", "internal/bytealg.IndexByteString", "internal/bytealg.IndexString"], unfollowed := true, recurses := true, named := ["unicode/utf8.first", "unicode/utf8.acceptRanges", "internal/bytealg.MaxLen"], apart := false, laid := [("unicode/utf8.acceptRanges", laid_unicode_utf8_acceptRanges), ("unicode/utf8.first", laid_unicode_utf8_first)], narrowed := true }
def FnExactDoneOrderUptoSaid : Prop := fnExactDoneOrderUptoRow.holds Tryz.pinned (OpenSpec.upto fnExactDoneOrderSpec)

/-- 'laws.FnExactStartOrder', WHERE WHAT IT READS IS OF BULK AT MOST 1048576: true; the input reads as it did. -/
def fnExactStartOrderUptoRow : OpenClaim := { program := "ytiiiokblnnlapaagreatdoor", sum := "299f836e749914d344198fdde174b4950b7a109cae4f0db97fb94393032a25b2", func := "loop.example/importhouse/laws.FnExactStartOrder", spec := "fnExactStartOrder", inPlace := ["internal/bytealg.CountString", "internal/bytealg.IndexByteString", "internal/bytealg.IndexString"], unfollowed := true, recurses := true, named := ["unicode/utf8.first", "unicode/utf8.acceptRanges", "internal/bytealg.MaxLen"], apart := false, laid := [("unicode/utf8.acceptRanges", laid_unicode_utf8_acceptRanges), ("unicode/utf8.first", laid_unicode_utf8_first)], narrowed := true }
def FnExactStartOrderUptoSaid : Prop := fnExactStartOrderUptoRow.holds Tryz.pinned (OpenSpec.upto fnExactStartOrderSpec)

/-- 'laws.FnExactImportOne', WHERE WHAT IT READS IS OF BULK AT MOST 1048576: true; the input reads as it did. -/
def fnExactImportOneUptoRow : OpenClaim := { program := "ytiiiokblnnlapaagreatdoor", sum := "299f836e749914d344198fdde174b4950b7a109cae4f0db97fb94393032a25b2", func := "loop.example/importhouse/laws.FnExactImportOne", spec := "fnExactImportOne", inPlace := ["internal/bytealg.CountString", "internal/bytealg.IndexByteString", "internal/bytealg.IndexString"], unfollowed := true, recurses := true, named := ["unicode/utf8.first", "unicode/utf8.acceptRanges", "internal/bytealg.MaxLen"], apart := false, laid := [("unicode/utf8.acceptRanges", laid_unicode_utf8_acceptRanges), ("unicode/utf8.first", laid_unicode_utf8_first)], narrowed := true }
def FnExactImportOneUptoSaid : Prop := fnExactImportOneUptoRow.holds Tryz.pinned (OpenSpec.upto fnExactImportOneSpec)

/-- 'laws.FnExactPartialSeen', WHERE WHAT IT READS IS OF BULK AT MOST 1048576: true; the input reads as it did. -/
def fnExactPartialSeenUptoRow : OpenClaim := { program := "ytiiiokblnnlapaagreatdoor", sum := "299f836e749914d344198fdde174b4950b7a109cae4f0db97fb94393032a25b2", func := "loop.example/importhouse/laws.FnExactPartialSeen", spec := "fnExactPartialSeen", inPlace := ["internal/bytealg.CountString", "internal/bytealg.IndexByteString", "internal/bytealg.IndexString"], unfollowed := true, recurses := true, named := ["unicode/utf8.first", "unicode/utf8.acceptRanges", "internal/bytealg.MaxLen"], apart := false, laid := [("unicode/utf8.acceptRanges", laid_unicode_utf8_acceptRanges), ("unicode/utf8.first", laid_unicode_utf8_first)], narrowed := true }
def FnExactPartialSeenUptoSaid : Prop := fnExactPartialSeenUptoRow.holds Tryz.pinned (OpenSpec.upto fnExactPartialSeenSpec)

/-- 'laws.FnLayersOf', WHERE WHAT IT READS IS OF BULK AT MOST 1048576: true; the input reads as it did. -/
def fnLayersOfUptoRow : OpenClaim := { program := "ytiiiokblnnlapaagreatdoor", sum := "299f836e749914d344198fdde174b4950b7a109cae4f0db97fb94393032a25b2", func := "loop.example/importhouse/laws.FnLayersOf", spec := "fnLayersOf", inPlace := ["internal/bytealg.CountString", "internal/bytealg.IndexByteString", "internal/bytealg.IndexString", "internal/abi.NoEscape", "internal/bytealg.MakeNoZero"], unfollowed := true, recurses := true, named := ["unicode/utf8.first", "unicode/utf8.acceptRanges", "internal/bytealg.MaxLen"], apart := false, laid := [("unicode/utf8.acceptRanges", laid_unicode_utf8_acceptRanges), ("unicode/utf8.first", laid_unicode_utf8_first)], narrowed := true }
def FnLayersOfUptoSaid : Prop := fnLayersOfUptoRow.holds Tryz.pinned (OpenSpec.upto fnLayersOfSpec)

/-- 'laws.FnExactAttrsOf', WHERE WHAT IT READS IS OF BULK AT MOST 1048576: true; the input reads as it did. -/
def fnExactAttrsOfUptoRow : OpenClaim := { program := "ytiiiokblnnlapaagreatdoor", sum := "299f836e749914d344198fdde174b4950b7a109cae4f0db97fb94393032a25b2", func := "loop.example/importhouse/laws.FnExactAttrsOf", spec := "fnExactAttrsOf", inPlace := ["internal/bytealg.CountString", "internal/bytealg.IndexByteString", "internal/bytealg.IndexString"], unfollowed := true, recurses := true, named := ["unicode/utf8.first", "unicode/utf8.acceptRanges", "internal/bytealg.MaxLen"], apart := false, laid := [("unicode/utf8.acceptRanges", laid_unicode_utf8_acceptRanges), ("unicode/utf8.first", laid_unicode_utf8_first)], narrowed := true }
def FnExactAttrsOfUptoSaid : Prop := fnExactAttrsOfUptoRow.holds Tryz.pinned (OpenSpec.upto fnExactAttrsOfSpec)

/-- 'laws.FnExactPlainOrder', WHERE WHAT IT READS IS OF BULK AT MOST 1048576: true; the input reads as it did. -/
def fnExactPlainOrderUptoRow : OpenClaim := { program := "ytiiiokblnnlapaagreatdoor", sum := "299f836e749914d344198fdde174b4950b7a109cae4f0db97fb94393032a25b2", func := "loop.example/importhouse/laws.FnExactPlainOrder", spec := "fnExactPlainOrder", inPlace := ["internal/bytealg.CountString", "internal/bytealg.IndexByteString", "internal/bytealg.IndexString", "internal/abi.NoEscape", "internal/bytealg.MakeNoZero"], unfollowed := true, recurses := true, named := ["unicode/utf8.first", "unicode/utf8.acceptRanges", "internal/bytealg.MaxLen"], apart := false, laid := [("unicode/utf8.acceptRanges", laid_unicode_utf8_acceptRanges), ("unicode/utf8.first", laid_unicode_utf8_first)], narrowed := true }
def FnExactPlainOrderUptoSaid : Prop := fnExactPlainOrderUptoRow.holds Tryz.pinned (OpenSpec.upto fnExactPlainOrderSpec)

/-- 'laws.FnExactLayersOf', WHERE WHAT IT READS IS OF BULK AT MOST 1048576: true; the input reads as it did. -/
def fnExactLayersOfUptoRow : OpenClaim := { program := "ytiiiokblnnlapaagreatdoor", sum := "299f836e749914d344198fdde174b4950b7a109cae4f0db97fb94393032a25b2", func := "loop.example/importhouse/laws.FnExactLayersOf", spec := "fnExactLayersOf", inPlace := ["internal/bytealg.CountString", "internal/bytealg.IndexByteString", "internal/bytealg.IndexString", "internal/abi.NoEscape", "internal/bytealg.MakeNoZero"], unfollowed := true, recurses := true, named := ["unicode/utf8.first", "unicode/utf8.acceptRanges", "internal/bytealg.MaxLen"], apart := false, laid := [("unicode/utf8.acceptRanges", laid_unicode_utf8_acceptRanges), ("unicode/utf8.first", laid_unicode_utf8_first)], narrowed := true }
def FnExactLayersOfUptoSaid : Prop := fnExactLayersOfUptoRow.holds Tryz.pinned (OpenSpec.upto fnExactLayersOfSpec)

/-- 'laws.FnExactRunCommands', WHERE WHAT IT READS IS OF BULK AT MOST 1048576: true; the input reads as it did. -/
def fnExactRunCommandsUptoRow : OpenClaim := { program := "ytiiiokblnnlapaagreatdoor", sum := "299f836e749914d344198fdde174b4950b7a109cae4f0db97fb94393032a25b2", func := "loop.example/importhouse/laws.FnExactRunCommands", spec := "fnExactRunCommands", inPlace := ["internal/bytealg.CountString", "internal/bytealg.IndexByteString", "internal/bytealg.IndexString"], unfollowed := true, recurses := true, named := ["unicode/utf8.first", "unicode/utf8.acceptRanges", "internal/bytealg.MaxLen"], apart := false, laid := [("unicode/utf8.acceptRanges", laid_unicode_utf8_acceptRanges), ("unicode/utf8.first", laid_unicode_utf8_first)], narrowed := true }
def FnExactRunCommandsUptoSaid : Prop := fnExactRunCommandsUptoRow.holds Tryz.pinned (OpenSpec.upto fnExactRunCommandsSpec)

end Rows
end Go.Proofs.YtiiiokblnnlapaaGreatDoor
