/-
  NARROWER THAN 'FOR EVERY INPUT', by the rows' own cells (each row's printed sentence says how): FnExactIsSimple: laid · FnExactKidsOf: laid · FnReachOf: laid · FnMissingOf: laid · FnRingsOf: laid · FnUsersOf: laid · FnExactReachOf: laid · FnExactMissingOf: laid · FnExactRingsOf: laid · FnExactUsersOf: laid.
  DERIVED. THE GIVEN ROWS OF THIS SEAT. 10 by the template 'for every input the law returns true; each argument reads behind the call as it read before'; 0 by the template 'total and deterministic' (their statements: YtbnibckkfknpkaaGreatDoorTotals.lean).
  GIVEN WITH THE SEED: the statements are not yours to turn. If you find one false, say at which input.
  Laid BY PROGRAM, IN A SANDBOX (cutbox-rows.mjs): the forced cells as the released guide's own fill.sh prints them over the translation 821957cc406fd0f2… (all of the seat's roots in one cut). By AI agents, Wed Nov 11 2026. No macro, syntax, notation, axiom, sorry.
-/
import Derived.Test.YtbnibckkfknpkaaGreatDoorChecked
import GoSem.PinnedTables
import GoSem.Claim
import GoSem.ClaimJoined
import GoSem.ClaimMapViews
import Derived.JoinedTies
import Derived.KernelRfl
namespace Go.Proofs.YtbnibckkfknpkaaGreatDoor
/- THE CELL 'sum', in the pinned program and in every row, IS THE sha256 OF THE DUMP (.gsa) THAT YtbnibckkfknpkaaGreatDoorProg.lean LOADS. Nothing in Lean hashes anything: it is a label: what it is worth is what the hold of that sum in a sandbox is worth. -/
noncomputable def Tryz.pinned : Pinned := { name := "ytbnibckkfknpkaagreatdoor", sum := "821957cc406fd0f24d83ba8dce3166869cf8711429042d3f6e1ea09c658d3d9f", checked := Tryz.checked }
namespace Rows
def none {H : Type} : Left H := { results := [], args := [] }

/- WHAT THE LISTED PACKAGE-LEVEL VARIABLES READ AS WHEN THE CALL BEGINS. Each datum BY PROGRAM (the guide's laid-datum.mjs) off the statement by which the dump's own 'gosem.cut.vars' lays the variable. In a bare row this is a premise. The card (YtbnibckkfknpkaaGreatDoorCards.lean) ties it to the program's text. -/
def laid_unicode_utf8_acceptRanges {H : Type} : DataW H := .agg [.agg [.lit (.int .u8 128), .lit (.int .u8 191)], .agg [.lit (.int .u8 160), .lit (.int .u8 191)], .agg [.lit (.int .u8 128), .lit (.int .u8 159)], .agg [.lit (.int .u8 144), .lit (.int .u8 191)], .agg [.lit (.int .u8 128), .lit (.int .u8 143)], .agg [.lit (.int .u8 0), .lit (.int .u8 0)], .agg [.lit (.int .u8 0), .lit (.int .u8 0)], .agg [.lit (.int .u8 0), .lit (.int .u8 0)], .agg [.lit (.int .u8 0), .lit (.int .u8 0)], .agg [.lit (.int .u8 0), .lit (.int .u8 0)], .agg [.lit (.int .u8 0), .lit (.int .u8 0)], .agg [.lit (.int .u8 0), .lit (.int .u8 0)], .agg [.lit (.int .u8 0), .lit (.int .u8 0)], .agg [.lit (.int .u8 0), .lit (.int .u8 0)], .agg [.lit (.int .u8 0), .lit (.int .u8 0)], .agg [.lit (.int .u8 0), .lit (.int .u8 0)]]
/-- One of Go's own tables, pinned by name: the form's constant. -/
def laid_unicode_utf8_first : DataW Unit := Go.Pinned.utf8First

/-- 'laws.FnExactIsSimple': WHATEVER THE INPUT: true; the input reads as it did. -/
def fnExactIsSimpleSpec : ChangeSpec := { name := "fnExactIsSimple", fn := fun _ => fun
  | [d1, d2, d3] => { results := [.lit (.bool true)], args := [d1, d2, d3] }
  | _ => none }
def fnExactIsSimpleRow : OpenClaim := { program := "ytbnibckkfknpkaagreatdoor", sum := "821957cc406fd0f24d83ba8dce3166869cf8711429042d3f6e1ea09c658d3d9f", func := "loop.example/importhouse/laws.FnExactIsSimple", spec := "fnExactIsSimple", inPlace := ["internal/bytealg.CountString", "internal/bytealg.IndexByteString", "internal/bytealg.IndexString", "internal/abi.NoEscape", "internal/bytealg.MakeNoZero"], unfollowed := true, recurses := true, named := ["unicode/utf8.first", "unicode/utf8.acceptRanges", "internal/bytealg.MaxLen"], apart := false, laid := [("unicode/utf8.acceptRanges", laid_unicode_utf8_acceptRanges), ("unicode/utf8.first", laid_unicode_utf8_first)] }
def FnExactIsSimpleSaid : Prop := fnExactIsSimpleRow.holds Tryz.pinned (OpenSpec.ofChange fnExactIsSimpleSpec)

/-- ITS FALSE NEIGHBOUR: 'it returns false'. Refute it at one input. -/
def fnExactIsSimpleWrong : ChangeSpec := { name := "fnExactIsSimple", fn := fun _ => fun
  | [d1, d2, d3] => { results := [.lit (.bool false)], args := [d1, d2, d3] }
  | _ => none }
def FnExactIsSimpleWrongFalsely : Prop := fnExactIsSimpleRow.holds Tryz.pinned (OpenSpec.ofChange fnExactIsSimpleWrong)

/-- 'laws.FnExactKidsOf': WHATEVER THE INPUT: true; the input reads as it did. -/
def fnExactKidsOfSpec : ChangeSpec := { name := "fnExactKidsOf", fn := fun _ => fun
  | [d1, d2, d3] => { results := [.lit (.bool true)], args := [d1, d2, d3] }
  | _ => none }
def fnExactKidsOfRow : OpenClaim := { program := "ytbnibckkfknpkaagreatdoor", sum := "821957cc406fd0f24d83ba8dce3166869cf8711429042d3f6e1ea09c658d3d9f", func := "loop.example/importhouse/laws.FnExactKidsOf", spec := "fnExactKidsOf", inPlace := ["internal/bytealg.CountString", "internal/bytealg.IndexByteString", "internal/bytealg.IndexString", "internal/abi.NoEscape", "internal/bytealg.MakeNoZero"], unfollowed := true, recurses := true, named := ["unicode/utf8.first", "unicode/utf8.acceptRanges", "internal/bytealg.MaxLen"], apart := false, laid := [("unicode/utf8.acceptRanges", laid_unicode_utf8_acceptRanges), ("unicode/utf8.first", laid_unicode_utf8_first)] }
def FnExactKidsOfSaid : Prop := fnExactKidsOfRow.holds Tryz.pinned (OpenSpec.ofChange fnExactKidsOfSpec)

/-- ITS FALSE NEIGHBOUR: 'it returns false'. Refute it at one input. -/
def fnExactKidsOfWrong : ChangeSpec := { name := "fnExactKidsOf", fn := fun _ => fun
  | [d1, d2, d3] => { results := [.lit (.bool false)], args := [d1, d2, d3] }
  | _ => none }
def FnExactKidsOfWrongFalsely : Prop := fnExactKidsOfRow.holds Tryz.pinned (OpenSpec.ofChange fnExactKidsOfWrong)

/-- 'laws.FnReachOf': WHATEVER THE INPUT: true; the input reads as it did. -/
def fnReachOfSpec : ChangeSpec := { name := "fnReachOf", fn := fun _ => fun
  | [d] => { results := [.lit (.bool true)], args := [d] }
  | _ => none }
def fnReachOfRow : OpenClaim := { program := "ytbnibckkfknpkaagreatdoor", sum := "821957cc406fd0f24d83ba8dce3166869cf8711429042d3f6e1ea09c658d3d9f", func := "loop.example/importhouse/laws.FnReachOf", spec := "fnReachOf", inPlace := ["internal/bytealg.CountString", "internal/bytealg.IndexByteString", "internal/bytealg.IndexString", "internal/abi.NoEscape", "internal/bytealg.MakeNoZero"], unfollowed := true, recurses := true, named := ["unicode/utf8.first", "unicode/utf8.acceptRanges", "internal/bytealg.MaxLen"], apart := false, laid := [("unicode/utf8.acceptRanges", laid_unicode_utf8_acceptRanges), ("unicode/utf8.first", laid_unicode_utf8_first)] }
def FnReachOfSaid : Prop := fnReachOfRow.holds Tryz.pinned (OpenSpec.ofChange fnReachOfSpec)

/-- ITS FALSE NEIGHBOUR: 'it returns false'. Refute it at one input. -/
def fnReachOfWrong : ChangeSpec := { name := "fnReachOf", fn := fun _ => fun
  | [d] => { results := [.lit (.bool false)], args := [d] }
  | _ => none }
def FnReachOfWrongFalsely : Prop := fnReachOfRow.holds Tryz.pinned (OpenSpec.ofChange fnReachOfWrong)

/-- 'laws.FnMissingOf': WHATEVER THE INPUT: true; the input reads as it did. -/
def fnMissingOfSpec : ChangeSpec := { name := "fnMissingOf", fn := fun _ => fun
  | [d] => { results := [.lit (.bool true)], args := [d] }
  | _ => none }
def fnMissingOfRow : OpenClaim := { program := "ytbnibckkfknpkaagreatdoor", sum := "821957cc406fd0f24d83ba8dce3166869cf8711429042d3f6e1ea09c658d3d9f", func := "loop.example/importhouse/laws.FnMissingOf", spec := "fnMissingOf", inPlace := ["internal/bytealg.CountString", "internal/bytealg.IndexByteString", "internal/bytealg.IndexString", "internal/abi.NoEscape", "internal/bytealg.MakeNoZero"], unfollowed := true, recurses := true, named := ["unicode/utf8.first", "unicode/utf8.acceptRanges", "internal/bytealg.MaxLen"], apart := false, laid := [("unicode/utf8.acceptRanges", laid_unicode_utf8_acceptRanges), ("unicode/utf8.first", laid_unicode_utf8_first)] }
def FnMissingOfSaid : Prop := fnMissingOfRow.holds Tryz.pinned (OpenSpec.ofChange fnMissingOfSpec)

/-- ITS FALSE NEIGHBOUR: 'it returns false'. Refute it at one input. -/
def fnMissingOfWrong : ChangeSpec := { name := "fnMissingOf", fn := fun _ => fun
  | [d] => { results := [.lit (.bool false)], args := [d] }
  | _ => none }
def FnMissingOfWrongFalsely : Prop := fnMissingOfRow.holds Tryz.pinned (OpenSpec.ofChange fnMissingOfWrong)

/-- 'laws.FnRingsOf': WHATEVER THE INPUT: true; the input reads as it did. -/
def fnRingsOfSpec : ChangeSpec := { name := "fnRingsOf", fn := fun _ => fun
  | [d] => { results := [.lit (.bool true)], args := [d] }
  | _ => none }
def fnRingsOfRow : OpenClaim := { program := "ytbnibckkfknpkaagreatdoor", sum := "821957cc406fd0f24d83ba8dce3166869cf8711429042d3f6e1ea09c658d3d9f", func := "loop.example/importhouse/laws.FnRingsOf", spec := "fnRingsOf", inPlace := ["internal/bytealg.CountString", "internal/bytealg.IndexByteString", "internal/bytealg.IndexString", "internal/abi.NoEscape", "internal/bytealg.MakeNoZero"], unfollowed := true, recurses := true, named := ["unicode/utf8.first", "unicode/utf8.acceptRanges", "internal/bytealg.MaxLen"], apart := false, laid := [("unicode/utf8.acceptRanges", laid_unicode_utf8_acceptRanges), ("unicode/utf8.first", laid_unicode_utf8_first)] }
def FnRingsOfSaid : Prop := fnRingsOfRow.holds Tryz.pinned (OpenSpec.ofChange fnRingsOfSpec)

/-- ITS FALSE NEIGHBOUR: 'it returns false'. Refute it at one input. -/
def fnRingsOfWrong : ChangeSpec := { name := "fnRingsOf", fn := fun _ => fun
  | [d] => { results := [.lit (.bool false)], args := [d] }
  | _ => none }
def FnRingsOfWrongFalsely : Prop := fnRingsOfRow.holds Tryz.pinned (OpenSpec.ofChange fnRingsOfWrong)

/-- 'laws.FnUsersOf': WHATEVER THE INPUT: true; the input reads as it did. -/
def fnUsersOfSpec : ChangeSpec := { name := "fnUsersOf", fn := fun _ => fun
  | [d] => { results := [.lit (.bool true)], args := [d] }
  | _ => none }
def fnUsersOfRow : OpenClaim := { program := "ytbnibckkfknpkaagreatdoor", sum := "821957cc406fd0f24d83ba8dce3166869cf8711429042d3f6e1ea09c658d3d9f", func := "loop.example/importhouse/laws.FnUsersOf", spec := "fnUsersOf", inPlace := ["internal/bytealg.CountString", "internal/bytealg.IndexByteString", "internal/bytealg.IndexString", "internal/abi.NoEscape", "internal/bytealg.MakeNoZero"], unfollowed := true, recurses := true, named := ["unicode/utf8.first", "unicode/utf8.acceptRanges", "internal/bytealg.MaxLen"], apart := false, laid := [("unicode/utf8.acceptRanges", laid_unicode_utf8_acceptRanges), ("unicode/utf8.first", laid_unicode_utf8_first)] }
def FnUsersOfSaid : Prop := fnUsersOfRow.holds Tryz.pinned (OpenSpec.ofChange fnUsersOfSpec)

/-- ITS FALSE NEIGHBOUR: 'it returns false'. Refute it at one input. -/
def fnUsersOfWrong : ChangeSpec := { name := "fnUsersOf", fn := fun _ => fun
  | [d] => { results := [.lit (.bool false)], args := [d] }
  | _ => none }
def FnUsersOfWrongFalsely : Prop := fnUsersOfRow.holds Tryz.pinned (OpenSpec.ofChange fnUsersOfWrong)

/-- 'laws.FnExactReachOf': WHATEVER THE INPUT: true; the input reads as it did. -/
def fnExactReachOfSpec : ChangeSpec := { name := "fnExactReachOf", fn := fun _ => fun
  | [d1, d2, d3] => { results := [.lit (.bool true)], args := [d1, d2, d3] }
  | _ => none }
def fnExactReachOfRow : OpenClaim := { program := "ytbnibckkfknpkaagreatdoor", sum := "821957cc406fd0f24d83ba8dce3166869cf8711429042d3f6e1ea09c658d3d9f", func := "loop.example/importhouse/laws.FnExactReachOf", spec := "fnExactReachOf", inPlace := ["internal/bytealg.CountString", "internal/bytealg.IndexByteString", "internal/bytealg.IndexString", "internal/abi.NoEscape", "internal/bytealg.MakeNoZero"], unfollowed := true, recurses := true, named := ["unicode/utf8.first", "unicode/utf8.acceptRanges", "internal/bytealg.MaxLen"], apart := false, laid := [("unicode/utf8.acceptRanges", laid_unicode_utf8_acceptRanges), ("unicode/utf8.first", laid_unicode_utf8_first)] }
def FnExactReachOfSaid : Prop := fnExactReachOfRow.holds Tryz.pinned (OpenSpec.ofChange fnExactReachOfSpec)

/-- ITS FALSE NEIGHBOUR: 'it returns false'. Refute it at one input. -/
def fnExactReachOfWrong : ChangeSpec := { name := "fnExactReachOf", fn := fun _ => fun
  | [d1, d2, d3] => { results := [.lit (.bool false)], args := [d1, d2, d3] }
  | _ => none }
def FnExactReachOfWrongFalsely : Prop := fnExactReachOfRow.holds Tryz.pinned (OpenSpec.ofChange fnExactReachOfWrong)

/-- 'laws.FnExactMissingOf': WHATEVER THE INPUT: true; the input reads as it did. -/
def fnExactMissingOfSpec : ChangeSpec := { name := "fnExactMissingOf", fn := fun _ => fun
  | [d1, d2, d3] => { results := [.lit (.bool true)], args := [d1, d2, d3] }
  | _ => none }
def fnExactMissingOfRow : OpenClaim := { program := "ytbnibckkfknpkaagreatdoor", sum := "821957cc406fd0f24d83ba8dce3166869cf8711429042d3f6e1ea09c658d3d9f", func := "loop.example/importhouse/laws.FnExactMissingOf", spec := "fnExactMissingOf", inPlace := ["internal/bytealg.CountString", "internal/bytealg.IndexByteString", "internal/bytealg.IndexString", "internal/abi.NoEscape", "internal/bytealg.MakeNoZero"], unfollowed := true, recurses := true, named := ["unicode/utf8.first", "unicode/utf8.acceptRanges", "internal/bytealg.MaxLen"], apart := false, laid := [("unicode/utf8.acceptRanges", laid_unicode_utf8_acceptRanges), ("unicode/utf8.first", laid_unicode_utf8_first)] }
def FnExactMissingOfSaid : Prop := fnExactMissingOfRow.holds Tryz.pinned (OpenSpec.ofChange fnExactMissingOfSpec)

/-- ITS FALSE NEIGHBOUR: 'it returns false'. Refute it at one input. -/
def fnExactMissingOfWrong : ChangeSpec := { name := "fnExactMissingOf", fn := fun _ => fun
  | [d1, d2, d3] => { results := [.lit (.bool false)], args := [d1, d2, d3] }
  | _ => none }
def FnExactMissingOfWrongFalsely : Prop := fnExactMissingOfRow.holds Tryz.pinned (OpenSpec.ofChange fnExactMissingOfWrong)

/-- 'laws.FnExactRingsOf': WHATEVER THE INPUT: true; the input reads as it did. -/
def fnExactRingsOfSpec : ChangeSpec := { name := "fnExactRingsOf", fn := fun _ => fun
  | [d1, d2, d3] => { results := [.lit (.bool true)], args := [d1, d2, d3] }
  | _ => none }
def fnExactRingsOfRow : OpenClaim := { program := "ytbnibckkfknpkaagreatdoor", sum := "821957cc406fd0f24d83ba8dce3166869cf8711429042d3f6e1ea09c658d3d9f", func := "loop.example/importhouse/laws.FnExactRingsOf", spec := "fnExactRingsOf", inPlace := ["internal/bytealg.CountString", "internal/bytealg.IndexByteString", "internal/bytealg.IndexString", "internal/abi.NoEscape", "internal/bytealg.MakeNoZero"], unfollowed := true, recurses := true, named := ["unicode/utf8.first", "unicode/utf8.acceptRanges", "internal/bytealg.MaxLen"], apart := false, laid := [("unicode/utf8.acceptRanges", laid_unicode_utf8_acceptRanges), ("unicode/utf8.first", laid_unicode_utf8_first)] }
def FnExactRingsOfSaid : Prop := fnExactRingsOfRow.holds Tryz.pinned (OpenSpec.ofChange fnExactRingsOfSpec)

/-- ITS FALSE NEIGHBOUR: 'it returns false'. Refute it at one input. -/
def fnExactRingsOfWrong : ChangeSpec := { name := "fnExactRingsOf", fn := fun _ => fun
  | [d1, d2, d3] => { results := [.lit (.bool false)], args := [d1, d2, d3] }
  | _ => none }
def FnExactRingsOfWrongFalsely : Prop := fnExactRingsOfRow.holds Tryz.pinned (OpenSpec.ofChange fnExactRingsOfWrong)

/-- 'laws.FnExactUsersOf': WHATEVER THE INPUT: true; the input reads as it did. -/
def fnExactUsersOfSpec : ChangeSpec := { name := "fnExactUsersOf", fn := fun _ => fun
  | [d1, d2, d3] => { results := [.lit (.bool true)], args := [d1, d2, d3] }
  | _ => none }
def fnExactUsersOfRow : OpenClaim := { program := "ytbnibckkfknpkaagreatdoor", sum := "821957cc406fd0f24d83ba8dce3166869cf8711429042d3f6e1ea09c658d3d9f", func := "loop.example/importhouse/laws.FnExactUsersOf", spec := "fnExactUsersOf", inPlace := ["internal/bytealg.CountString", "internal/bytealg.IndexByteString", "internal/bytealg.IndexString", "internal/abi.NoEscape", "internal/bytealg.MakeNoZero"], unfollowed := true, recurses := true, named := ["unicode/utf8.first", "unicode/utf8.acceptRanges", "internal/bytealg.MaxLen"], apart := false, laid := [("unicode/utf8.acceptRanges", laid_unicode_utf8_acceptRanges), ("unicode/utf8.first", laid_unicode_utf8_first)] }
def FnExactUsersOfSaid : Prop := fnExactUsersOfRow.holds Tryz.pinned (OpenSpec.ofChange fnExactUsersOfSpec)

/-- ITS FALSE NEIGHBOUR: 'it returns false'. Refute it at one input. -/
def fnExactUsersOfWrong : ChangeSpec := { name := "fnExactUsersOf", fn := fun _ => fun
  | [d1, d2, d3] => { results := [.lit (.bool false)], args := [d1, d2, d3] }
  | _ => none }
def FnExactUsersOfWrongFalsely : Prop := fnExactUsersOfRow.holds Tryz.pinned (OpenSpec.ofChange fnExactUsersOfWrong)

/- THE SECOND FORM. 'bulk': how many values and letters a reading holds, each counted each time it is reached (what is shared counts as often as it is met; a slice's spare places count too). A statement '..UptoSaid' is the law's where the arguments, and the package variables that the reading takes, are together of bulk at most 1048576: NARROWER than '..Said'. Prove '..Said' where nothing that the law and all that it calls make is longer than what came in: it says more and counts as full. Else prove '..UptoSaid'. A law counts once. -/
mutual
def uptoBulk {H : Type} : DataW H → Nat
  | .lit (.string bytes) => bytes.length + 1
  | .lit _ => 1
  | .nil => 1
  | .ptr d => uptoBulk d + 1
  | .slice elems spare => uptoBulkAll elems + uptoBulkAll spare + 1
  | .agg parts => uptoBulkAll parts + 1
  | .iface _ d => uptoBulk d + 1
  | .map entries => uptoBulkEntries entries + 1
  | .held _ => 1
def uptoBulkAll {H : Type} : List (DataW H) → Nat
  | [] => 0
  | d :: r => uptoBulk d + uptoBulkAll r
def uptoBulkEntries {H : Type} : List (Lit × DataW H) → Nat
  | [] => 0
  | x :: r => uptoBulkEntry x + uptoBulkEntries r
def uptoBulkEntry {H : Type} : Lit × DataW H → Nat
  | (.string bytes, d) => bytes.length + uptoBulk d + 1
  | (_, d) => uptoBulk d + 1
 end
def uptoSmall : (H : Type) → List (DataW H) → Bool := fun _ ds => decide (uptoBulkAll ds ≤ 1048576)
def OpenSpec.upto (s : _root_.Go.ChangeSpec) : _root_.Go.OpenSpec := { _root_.Go.OpenSpec.ofChange s with cond := some uptoSmall }

/-- 'laws.FnExactIsSimple', WHERE WHAT IT READS IS OF BULK AT MOST 1048576: true; the input reads as it did. -/
def fnExactIsSimpleUptoRow : OpenClaim := { program := "ytbnibckkfknpkaagreatdoor", sum := "821957cc406fd0f24d83ba8dce3166869cf8711429042d3f6e1ea09c658d3d9f", func := "loop.example/importhouse/laws.FnExactIsSimple", spec := "fnExactIsSimple", inPlace := ["internal/bytealg.CountString", "internal/bytealg.IndexByteString", "internal/bytealg.IndexString", "internal/abi.NoEscape", "internal/bytealg.MakeNoZero"], unfollowed := true, recurses := true, named := ["unicode/utf8.first", "unicode/utf8.acceptRanges", "internal/bytealg.MaxLen"], apart := false, laid := [("unicode/utf8.acceptRanges", laid_unicode_utf8_acceptRanges), ("unicode/utf8.first", laid_unicode_utf8_first)], narrowed := true }
def FnExactIsSimpleUptoSaid : Prop := fnExactIsSimpleUptoRow.holds Tryz.pinned (OpenSpec.upto fnExactIsSimpleSpec)

/-- 'laws.FnExactKidsOf', WHERE WHAT IT READS IS OF BULK AT MOST 1048576: true; the input reads as it did. -/
def fnExactKidsOfUptoRow : OpenClaim := { program := "ytbnibckkfknpkaagreatdoor", sum := "821957cc406fd0f24d83ba8dce3166869cf8711429042d3f6e1ea09c658d3d9f", func := "loop.example/importhouse/laws.FnExactKidsOf", spec := "fnExactKidsOf", inPlace := ["internal/bytealg.CountString", "internal/bytealg.IndexByteString", "internal/bytealg.IndexString", "internal/abi.NoEscape", "internal/bytealg.MakeNoZero"], unfollowed := true, recurses := true, named := ["unicode/utf8.first", "unicode/utf8.acceptRanges", "internal/bytealg.MaxLen"], apart := false, laid := [("unicode/utf8.acceptRanges", laid_unicode_utf8_acceptRanges), ("unicode/utf8.first", laid_unicode_utf8_first)], narrowed := true }
def FnExactKidsOfUptoSaid : Prop := fnExactKidsOfUptoRow.holds Tryz.pinned (OpenSpec.upto fnExactKidsOfSpec)

/-- 'laws.FnReachOf', WHERE WHAT IT READS IS OF BULK AT MOST 1048576: true; the input reads as it did. -/
def fnReachOfUptoRow : OpenClaim := { program := "ytbnibckkfknpkaagreatdoor", sum := "821957cc406fd0f24d83ba8dce3166869cf8711429042d3f6e1ea09c658d3d9f", func := "loop.example/importhouse/laws.FnReachOf", spec := "fnReachOf", inPlace := ["internal/bytealg.CountString", "internal/bytealg.IndexByteString", "internal/bytealg.IndexString", "internal/abi.NoEscape", "internal/bytealg.MakeNoZero"], unfollowed := true, recurses := true, named := ["unicode/utf8.first", "unicode/utf8.acceptRanges", "internal/bytealg.MaxLen"], apart := false, laid := [("unicode/utf8.acceptRanges", laid_unicode_utf8_acceptRanges), ("unicode/utf8.first", laid_unicode_utf8_first)], narrowed := true }
def FnReachOfUptoSaid : Prop := fnReachOfUptoRow.holds Tryz.pinned (OpenSpec.upto fnReachOfSpec)

/-- 'laws.FnMissingOf', WHERE WHAT IT READS IS OF BULK AT MOST 1048576: true; the input reads as it did. -/
def fnMissingOfUptoRow : OpenClaim := { program := "ytbnibckkfknpkaagreatdoor", sum := "821957cc406fd0f24d83ba8dce3166869cf8711429042d3f6e1ea09c658d3d9f", func := "loop.example/importhouse/laws.FnMissingOf", spec := "fnMissingOf", inPlace := ["internal/bytealg.CountString", "internal/bytealg.IndexByteString", "internal/bytealg.IndexString", "internal/abi.NoEscape", "internal/bytealg.MakeNoZero"], unfollowed := true, recurses := true, named := ["unicode/utf8.first", "unicode/utf8.acceptRanges", "internal/bytealg.MaxLen"], apart := false, laid := [("unicode/utf8.acceptRanges", laid_unicode_utf8_acceptRanges), ("unicode/utf8.first", laid_unicode_utf8_first)], narrowed := true }
def FnMissingOfUptoSaid : Prop := fnMissingOfUptoRow.holds Tryz.pinned (OpenSpec.upto fnMissingOfSpec)

/-- 'laws.FnRingsOf', WHERE WHAT IT READS IS OF BULK AT MOST 1048576: true; the input reads as it did. -/
def fnRingsOfUptoRow : OpenClaim := { program := "ytbnibckkfknpkaagreatdoor", sum := "821957cc406fd0f24d83ba8dce3166869cf8711429042d3f6e1ea09c658d3d9f", func := "loop.example/importhouse/laws.FnRingsOf", spec := "fnRingsOf", inPlace := ["internal/bytealg.CountString", "internal/bytealg.IndexByteString", "internal/bytealg.IndexString", "internal/abi.NoEscape", "internal/bytealg.MakeNoZero"], unfollowed := true, recurses := true, named := ["unicode/utf8.first", "unicode/utf8.acceptRanges", "internal/bytealg.MaxLen"], apart := false, laid := [("unicode/utf8.acceptRanges", laid_unicode_utf8_acceptRanges), ("unicode/utf8.first", laid_unicode_utf8_first)], narrowed := true }
def FnRingsOfUptoSaid : Prop := fnRingsOfUptoRow.holds Tryz.pinned (OpenSpec.upto fnRingsOfSpec)

/-- 'laws.FnUsersOf', WHERE WHAT IT READS IS OF BULK AT MOST 1048576: true; the input reads as it did. -/
def fnUsersOfUptoRow : OpenClaim := { program := "ytbnibckkfknpkaagreatdoor", sum := "821957cc406fd0f24d83ba8dce3166869cf8711429042d3f6e1ea09c658d3d9f", func := "loop.example/importhouse/laws.FnUsersOf", spec := "fnUsersOf", inPlace := ["internal/bytealg.CountString", "internal/bytealg.IndexByteString", "internal/bytealg.IndexString", "internal/abi.NoEscape", "internal/bytealg.MakeNoZero"], unfollowed := true, recurses := true, named := ["unicode/utf8.first", "unicode/utf8.acceptRanges", "internal/bytealg.MaxLen"], apart := false, laid := [("unicode/utf8.acceptRanges", laid_unicode_utf8_acceptRanges), ("unicode/utf8.first", laid_unicode_utf8_first)], narrowed := true }
def FnUsersOfUptoSaid : Prop := fnUsersOfUptoRow.holds Tryz.pinned (OpenSpec.upto fnUsersOfSpec)

/-- 'laws.FnExactReachOf', WHERE WHAT IT READS IS OF BULK AT MOST 1048576: true; the input reads as it did. -/
def fnExactReachOfUptoRow : OpenClaim := { program := "ytbnibckkfknpkaagreatdoor", sum := "821957cc406fd0f24d83ba8dce3166869cf8711429042d3f6e1ea09c658d3d9f", func := "loop.example/importhouse/laws.FnExactReachOf", spec := "fnExactReachOf", inPlace := ["internal/bytealg.CountString", "internal/bytealg.IndexByteString", "internal/bytealg.IndexString", "internal/abi.NoEscape", "internal/bytealg.MakeNoZero"], unfollowed := true, recurses := true, named := ["unicode/utf8.first", "unicode/utf8.acceptRanges", "internal/bytealg.MaxLen"], apart := false, laid := [("unicode/utf8.acceptRanges", laid_unicode_utf8_acceptRanges), ("unicode/utf8.first", laid_unicode_utf8_first)], narrowed := true }
def FnExactReachOfUptoSaid : Prop := fnExactReachOfUptoRow.holds Tryz.pinned (OpenSpec.upto fnExactReachOfSpec)

/-- 'laws.FnExactMissingOf', WHERE WHAT IT READS IS OF BULK AT MOST 1048576: true; the input reads as it did. -/
def fnExactMissingOfUptoRow : OpenClaim := { program := "ytbnibckkfknpkaagreatdoor", sum := "821957cc406fd0f24d83ba8dce3166869cf8711429042d3f6e1ea09c658d3d9f", func := "loop.example/importhouse/laws.FnExactMissingOf", spec := "fnExactMissingOf", inPlace := ["internal/bytealg.CountString", "internal/bytealg.IndexByteString", "internal/bytealg.IndexString", "internal/abi.NoEscape", "internal/bytealg.MakeNoZero"], unfollowed := true, recurses := true, named := ["unicode/utf8.first", "unicode/utf8.acceptRanges", "internal/bytealg.MaxLen"], apart := false, laid := [("unicode/utf8.acceptRanges", laid_unicode_utf8_acceptRanges), ("unicode/utf8.first", laid_unicode_utf8_first)], narrowed := true }
def FnExactMissingOfUptoSaid : Prop := fnExactMissingOfUptoRow.holds Tryz.pinned (OpenSpec.upto fnExactMissingOfSpec)

/-- 'laws.FnExactRingsOf', WHERE WHAT IT READS IS OF BULK AT MOST 1048576: true; the input reads as it did. -/
def fnExactRingsOfUptoRow : OpenClaim := { program := "ytbnibckkfknpkaagreatdoor", sum := "821957cc406fd0f24d83ba8dce3166869cf8711429042d3f6e1ea09c658d3d9f", func := "loop.example/importhouse/laws.FnExactRingsOf", spec := "fnExactRingsOf", inPlace := ["internal/bytealg.CountString", "internal/bytealg.IndexByteString", "internal/bytealg.IndexString", "internal/abi.NoEscape", "internal/bytealg.MakeNoZero"], unfollowed := true, recurses := true, named := ["unicode/utf8.first", "unicode/utf8.acceptRanges", "internal/bytealg.MaxLen"], apart := false, laid := [("unicode/utf8.acceptRanges", laid_unicode_utf8_acceptRanges), ("unicode/utf8.first", laid_unicode_utf8_first)], narrowed := true }
def FnExactRingsOfUptoSaid : Prop := fnExactRingsOfUptoRow.holds Tryz.pinned (OpenSpec.upto fnExactRingsOfSpec)

/-- 'laws.FnExactUsersOf', WHERE WHAT IT READS IS OF BULK AT MOST 1048576: true; the input reads as it did. -/
def fnExactUsersOfUptoRow : OpenClaim := { program := "ytbnibckkfknpkaagreatdoor", sum := "821957cc406fd0f24d83ba8dce3166869cf8711429042d3f6e1ea09c658d3d9f", func := "loop.example/importhouse/laws.FnExactUsersOf", spec := "fnExactUsersOf", inPlace := ["internal/bytealg.CountString", "internal/bytealg.IndexByteString", "internal/bytealg.IndexString", "internal/abi.NoEscape", "internal/bytealg.MakeNoZero"], unfollowed := true, recurses := true, named := ["unicode/utf8.first", "unicode/utf8.acceptRanges", "internal/bytealg.MaxLen"], apart := false, laid := [("unicode/utf8.acceptRanges", laid_unicode_utf8_acceptRanges), ("unicode/utf8.first", laid_unicode_utf8_first)], narrowed := true }
def FnExactUsersOfUptoSaid : Prop := fnExactUsersOfUptoRow.holds Tryz.pinned (OpenSpec.upto fnExactUsersOfSpec)

end Rows
end Go.Proofs.YtbnibckkfknpkaaGreatDoor
