/-
  NARROWER THAN 'FOR EVERY INPUT', by the rows' own cells (each row's printed sentence says how): FnExactFillsOf: laid · FnExactRunWarm: laid · FnFillsOf: laid · FnRunWarm: laid · FnRunWarmAdd: laid · FnRunWarmHash: laid.
  DERIVED. THE GIVEN ROWS OF THIS SEAT. 6 by the template 'for every input the law returns true; each argument reads behind the call as it read before'; 0 by the template 'total and deterministic' (their statements: YtoomehfflopakaaGreatDoorTotals.lean).
  GIVEN WITH THE SEED: the statements are not yours to turn. If you find one false, say at which input.
  Laid BY PROGRAM, IN A SANDBOX (cutbox-rows.mjs): the forced cells as the released guide's own fill.sh prints them over the translation 849b58b001986b37… (all of the seat's roots in one cut). By AI agents, Wed Nov 11 2026. No macro, syntax, notation, axiom, sorry.
-/
import Derived.Test.YtoomehfflopakaaGreatDoorChecked
import GoSem.PinnedTables
import GoSem.Claim
import GoSem.ClaimJoined
import GoSem.ClaimMapViews
import Derived.JoinedTies
import Derived.KernelRfl
namespace Go.Proofs.YtoomehfflopakaaGreatDoor
/- THE CELL 'sum', in the pinned program and in every row, IS THE sha256 OF THE DUMP (.gsa) THAT YtoomehfflopakaaGreatDoorProg.lean LOADS. Nothing in Lean hashes anything: it is a label: what it is worth is what the hold of that sum in a sandbox is worth. -/
noncomputable def Tryz.pinned : Pinned := { name := "ytoomehfflopakaagreatdoor", sum := "849b58b001986b373acbd167fdc42a9aaa3694b2f11db89f7c44ab4d8803c689", checked := Tryz.checked }
namespace Rows
def none {H : Type} : Left H := { results := [], args := [] }

/- WHAT THE LISTED PACKAGE-LEVEL VARIABLES READ AS WHEN THE CALL BEGINS. Each datum BY PROGRAM (the guide's laid-datum.mjs) off the statement by which the dump's own 'gosem.cut.vars' lays the variable. In a bare row this is a premise. The card (YtoomehfflopakaaGreatDoorCards.lean) ties it to the program's text. -/
def laid_unicode_utf8_acceptRanges {H : Type} : DataW H := .agg [.agg [.lit (.int .u8 128), .lit (.int .u8 191)], .agg [.lit (.int .u8 160), .lit (.int .u8 191)], .agg [.lit (.int .u8 128), .lit (.int .u8 159)], .agg [.lit (.int .u8 144), .lit (.int .u8 191)], .agg [.lit (.int .u8 128), .lit (.int .u8 143)], .agg [.lit (.int .u8 0), .lit (.int .u8 0)], .agg [.lit (.int .u8 0), .lit (.int .u8 0)], .agg [.lit (.int .u8 0), .lit (.int .u8 0)], .agg [.lit (.int .u8 0), .lit (.int .u8 0)], .agg [.lit (.int .u8 0), .lit (.int .u8 0)], .agg [.lit (.int .u8 0), .lit (.int .u8 0)], .agg [.lit (.int .u8 0), .lit (.int .u8 0)], .agg [.lit (.int .u8 0), .lit (.int .u8 0)], .agg [.lit (.int .u8 0), .lit (.int .u8 0)], .agg [.lit (.int .u8 0), .lit (.int .u8 0)], .agg [.lit (.int .u8 0), .lit (.int .u8 0)]]
/-- One of Go's own tables, pinned by name: the form's constant. -/
def laid_unicode_utf8_first : DataW Unit := Go.Pinned.utf8First

/-- 'laws.FnExactFillsOf': WHATEVER THE INPUT: true; the input reads as it did. -/
def fnExactFillsOfSpec : ChangeSpec := { name := "fnExactFillsOf", fn := fun _ => fun
  | [d1, d2, d3] => { results := [.lit (.bool true)], args := [d1, d2, d3] }
  | _ => none }
def fnExactFillsOfRow : OpenClaim := { program := "ytoomehfflopakaagreatdoor", sum := "849b58b001986b373acbd167fdc42a9aaa3694b2f11db89f7c44ab4d8803c689", func := "loop.example/importhouse/laws.FnExactFillsOf", spec := "fnExactFillsOf", inPlace := ["internal/bytealg.CountString", "internal/bytealg.IndexByteString", "internal/bytealg.IndexString", "internal/abi.NoEscape", "internal/bytealg.MakeNoZero"], unfollowed := true, recurses := true, named := ["unicode/utf8.first", "unicode/utf8.acceptRanges", "internal/bytealg.MaxLen"], apart := false, laid := [("unicode/utf8.acceptRanges", laid_unicode_utf8_acceptRanges), ("unicode/utf8.first", laid_unicode_utf8_first)] }
def FnExactFillsOfSaid : Prop := fnExactFillsOfRow.holds Tryz.pinned (OpenSpec.ofChange fnExactFillsOfSpec)

/-- ITS FALSE NEIGHBOUR: 'it returns false'. Refute it at one input. -/
def fnExactFillsOfWrong : ChangeSpec := { name := "fnExactFillsOf", fn := fun _ => fun
  | [d1, d2, d3] => { results := [.lit (.bool false)], args := [d1, d2, d3] }
  | _ => none }
def FnExactFillsOfWrongFalsely : Prop := fnExactFillsOfRow.holds Tryz.pinned (OpenSpec.ofChange fnExactFillsOfWrong)

/-- 'laws.FnExactRunWarm': WHATEVER THE INPUT: true; the input reads as it did. -/
def fnExactRunWarmSpec : ChangeSpec := { name := "fnExactRunWarm", fn := fun _ => fun
  | [d1, d2, d3, d4] => { results := [.lit (.bool true)], args := [d1, d2, d3, d4] }
  | _ => none }
def fnExactRunWarmRow : OpenClaim := { program := "ytoomehfflopakaagreatdoor", sum := "849b58b001986b373acbd167fdc42a9aaa3694b2f11db89f7c44ab4d8803c689", func := "loop.example/importhouse/laws.FnExactRunWarm", spec := "fnExactRunWarm", inPlace := ["internal/bytealg.CountString", "internal/bytealg.IndexByteString", "internal/bytealg.IndexString", "internal/abi.NoEscape", "internal/bytealg.MakeNoZero"], unfollowed := true, recurses := true, named := ["unicode/utf8.first", "unicode/utf8.acceptRanges", "internal/bytealg.MaxLen"], apart := false, laid := [("unicode/utf8.acceptRanges", laid_unicode_utf8_acceptRanges), ("unicode/utf8.first", laid_unicode_utf8_first)] }
def FnExactRunWarmSaid : Prop := fnExactRunWarmRow.holds Tryz.pinned (OpenSpec.ofChange fnExactRunWarmSpec)

/-- ITS FALSE NEIGHBOUR: 'it returns false'. Refute it at one input. -/
def fnExactRunWarmWrong : ChangeSpec := { name := "fnExactRunWarm", fn := fun _ => fun
  | [d1, d2, d3, d4] => { results := [.lit (.bool false)], args := [d1, d2, d3, d4] }
  | _ => none }
def FnExactRunWarmWrongFalsely : Prop := fnExactRunWarmRow.holds Tryz.pinned (OpenSpec.ofChange fnExactRunWarmWrong)

/-- 'laws.FnFillsOf': WHATEVER THE INPUT: true; the input reads as it did. -/
def fnFillsOfSpec : ChangeSpec := { name := "fnFillsOf", fn := fun _ => fun
  | [d] => { results := [.lit (.bool true)], args := [d] }
  | _ => none }
def fnFillsOfRow : OpenClaim := { program := "ytoomehfflopakaagreatdoor", sum := "849b58b001986b373acbd167fdc42a9aaa3694b2f11db89f7c44ab4d8803c689", func := "loop.example/importhouse/laws.FnFillsOf", spec := "fnFillsOf", inPlace := ["internal/bytealg.CountString", "internal/bytealg.IndexByteString", "internal/bytealg.IndexString", "internal/abi.NoEscape", "internal/bytealg.MakeNoZero"], unfollowed := true, recurses := true, named := ["unicode/utf8.first", "unicode/utf8.acceptRanges", "internal/bytealg.MaxLen"], apart := false, laid := [("unicode/utf8.acceptRanges", laid_unicode_utf8_acceptRanges), ("unicode/utf8.first", laid_unicode_utf8_first)] }
def FnFillsOfSaid : Prop := fnFillsOfRow.holds Tryz.pinned (OpenSpec.ofChange fnFillsOfSpec)

/-- ITS FALSE NEIGHBOUR: 'it returns false'. Refute it at one input. -/
def fnFillsOfWrong : ChangeSpec := { name := "fnFillsOf", fn := fun _ => fun
  | [d] => { results := [.lit (.bool false)], args := [d] }
  | _ => none }
def FnFillsOfWrongFalsely : Prop := fnFillsOfRow.holds Tryz.pinned (OpenSpec.ofChange fnFillsOfWrong)

/-- 'laws.FnRunWarm': WHATEVER THE INPUT: true; the input reads as it did. -/
def fnRunWarmSpec : ChangeSpec := { name := "fnRunWarm", fn := fun _ => fun
  | [d] => { results := [.lit (.bool true)], args := [d] }
  | _ => none }
def fnRunWarmRow : OpenClaim := { program := "ytoomehfflopakaagreatdoor", sum := "849b58b001986b373acbd167fdc42a9aaa3694b2f11db89f7c44ab4d8803c689", func := "loop.example/importhouse/laws.FnRunWarm", spec := "fnRunWarm", inPlace := ["internal/bytealg.CountString", "internal/bytealg.IndexByteString", "internal/bytealg.IndexString", "internal/abi.NoEscape", "internal/bytealg.MakeNoZero"], unfollowed := true, recurses := true, named := ["unicode/utf8.first", "unicode/utf8.acceptRanges", "internal/bytealg.MaxLen"], apart := false, laid := [("unicode/utf8.acceptRanges", laid_unicode_utf8_acceptRanges), ("unicode/utf8.first", laid_unicode_utf8_first)] }
def FnRunWarmSaid : Prop := fnRunWarmRow.holds Tryz.pinned (OpenSpec.ofChange fnRunWarmSpec)

/-- ITS FALSE NEIGHBOUR: 'it returns false'. Refute it at one input. -/
def fnRunWarmWrong : ChangeSpec := { name := "fnRunWarm", fn := fun _ => fun
  | [d] => { results := [.lit (.bool false)], args := [d] }
  | _ => none }
def FnRunWarmWrongFalsely : Prop := fnRunWarmRow.holds Tryz.pinned (OpenSpec.ofChange fnRunWarmWrong)

/-- 'laws.FnRunWarmAdd': WHATEVER THE INPUT: true; the input reads as it did. -/
def fnRunWarmAddSpec : ChangeSpec := { name := "fnRunWarmAdd", fn := fun _ => fun
  | [d] => { results := [.lit (.bool true)], args := [d] }
  | _ => none }
def fnRunWarmAddRow : OpenClaim := { program := "ytoomehfflopakaagreatdoor", sum := "849b58b001986b373acbd167fdc42a9aaa3694b2f11db89f7c44ab4d8803c689", func := "loop.example/importhouse/laws.FnRunWarmAdd", spec := "fnRunWarmAdd", inPlace := ["internal/bytealg.CountString", "internal/bytealg.IndexByteString", "internal/bytealg.IndexString", "internal/abi.NoEscape", "internal/bytealg.MakeNoZero"], unfollowed := true, recurses := true, named := ["unicode/utf8.first", "unicode/utf8.acceptRanges", "internal/bytealg.MaxLen"], apart := false, laid := [("unicode/utf8.acceptRanges", laid_unicode_utf8_acceptRanges), ("unicode/utf8.first", laid_unicode_utf8_first)] }
def FnRunWarmAddSaid : Prop := fnRunWarmAddRow.holds Tryz.pinned (OpenSpec.ofChange fnRunWarmAddSpec)

/-- ITS FALSE NEIGHBOUR: 'it returns false'. Refute it at one input. -/
def fnRunWarmAddWrong : ChangeSpec := { name := "fnRunWarmAdd", fn := fun _ => fun
  | [d] => { results := [.lit (.bool false)], args := [d] }
  | _ => none }
def FnRunWarmAddWrongFalsely : Prop := fnRunWarmAddRow.holds Tryz.pinned (OpenSpec.ofChange fnRunWarmAddWrong)

/-- 'laws.FnRunWarmHash': WHATEVER THE INPUT: true; the input reads as it did. -/
def fnRunWarmHashSpec : ChangeSpec := { name := "fnRunWarmHash", fn := fun _ => fun
  | [d] => { results := [.lit (.bool true)], args := [d] }
  | _ => none }
def fnRunWarmHashRow : OpenClaim := { program := "ytoomehfflopakaagreatdoor", sum := "849b58b001986b373acbd167fdc42a9aaa3694b2f11db89f7c44ab4d8803c689", func := "loop.example/importhouse/laws.FnRunWarmHash", spec := "fnRunWarmHash", inPlace := ["internal/bytealg.CountString", "internal/bytealg.IndexByteString", "internal/bytealg.IndexString", "internal/abi.NoEscape", "internal/bytealg.MakeNoZero"], unfollowed := true, recurses := true, named := ["unicode/utf8.first", "unicode/utf8.acceptRanges", "internal/bytealg.MaxLen"], apart := false, laid := [("unicode/utf8.acceptRanges", laid_unicode_utf8_acceptRanges), ("unicode/utf8.first", laid_unicode_utf8_first)] }
def FnRunWarmHashSaid : Prop := fnRunWarmHashRow.holds Tryz.pinned (OpenSpec.ofChange fnRunWarmHashSpec)

/-- ITS FALSE NEIGHBOUR: 'it returns false'. Refute it at one input. -/
def fnRunWarmHashWrong : ChangeSpec := { name := "fnRunWarmHash", fn := fun _ => fun
  | [d] => { results := [.lit (.bool false)], args := [d] }
  | _ => none }
def FnRunWarmHashWrongFalsely : Prop := fnRunWarmHashRow.holds Tryz.pinned (OpenSpec.ofChange fnRunWarmHashWrong)

/- THE SECOND FORM. 'bulk': how many values and letters a reading holds, each counted each time it is reached (what is shared counts as often as it is met; a slice's spare places count too). A statement '..UptoSaid' is the law's where the arguments, and the package variables that the reading takes, are together of bulk at most 1048576: NARROWER than '..Said'. Prove '..Said' where nothing that the law and all that it calls make is longer than what came in: it says more and counts as full. Else prove '..UptoSaid'. A law counts once. -/
mutual
def uptoBulk {H : Type} : DataW H → Nat
  | .lit (.string bytes) => bytes.length + 1
  | .lit _ => 1
  | .nil => 1
  | .ptr d => uptoBulk d + 1
  | .slice elems spare => uptoBulkAll elems + uptoBulkAll spare + 1
  | .agg parts => uptoBulkAll parts + 1
  | .iface _ d => uptoBulk d + 1
  | .map entries => uptoBulkEntries entries + 1
  | .held _ => 1
def uptoBulkAll {H : Type} : List (DataW H) → Nat
  | [] => 0
  | d :: r => uptoBulk d + uptoBulkAll r
def uptoBulkEntries {H : Type} : List (Lit × DataW H) → Nat
  | [] => 0
  | x :: r => uptoBulkEntry x + uptoBulkEntries r
def uptoBulkEntry {H : Type} : Lit × DataW H → Nat
  | (.string bytes, d) => bytes.length + uptoBulk d + 1
  | (_, d) => uptoBulk d + 1
 end
def uptoSmall : (H : Type) → List (DataW H) → Bool := fun _ ds => decide (uptoBulkAll ds ≤ 1048576)
def OpenSpec.upto (s : _root_.Go.ChangeSpec) : _root_.Go.OpenSpec := { _root_.Go.OpenSpec.ofChange s with cond := some uptoSmall }

/-- 'laws.FnExactFillsOf', WHERE WHAT IT READS IS OF BULK AT MOST 1048576: true; the input reads as it did. -/
def fnExactFillsOfUptoRow : OpenClaim := { program := "ytoomehfflopakaagreatdoor", sum := "849b58b001986b373acbd167fdc42a9aaa3694b2f11db89f7c44ab4d8803c689", func := "loop.example/importhouse/laws.FnExactFillsOf", spec := "fnExactFillsOf", inPlace := ["internal/bytealg.CountString", "internal/bytealg.IndexByteString", "internal/bytealg.IndexString", "internal/abi.NoEscape", "internal/bytealg.MakeNoZero"], unfollowed := true, recurses := true, named := ["unicode/utf8.first", "unicode/utf8.acceptRanges", "internal/bytealg.MaxLen"], apart := false, laid := [("unicode/utf8.acceptRanges", laid_unicode_utf8_acceptRanges), ("unicode/utf8.first", laid_unicode_utf8_first)], narrowed := true }
def FnExactFillsOfUptoSaid : Prop := fnExactFillsOfUptoRow.holds Tryz.pinned (OpenSpec.upto fnExactFillsOfSpec)

/-- 'laws.FnExactRunWarm', WHERE WHAT IT READS IS OF BULK AT MOST 1048576: true; the input reads as it did. -/
def fnExactRunWarmUptoRow : OpenClaim := { program := "ytoomehfflopakaagreatdoor", sum := "849b58b001986b373acbd167fdc42a9aaa3694b2f11db89f7c44ab4d8803c689", func := "loop.example/importhouse/laws.FnExactRunWarm", spec := "fnExactRunWarm", inPlace := ["internal/bytealg.CountString", "internal/bytealg.IndexByteString", "internal/bytealg.IndexString", "internal/abi.NoEscape", "internal/bytealg.MakeNoZero"], unfollowed := true, recurses := true, named := ["unicode/utf8.first", "unicode/utf8.acceptRanges", "internal/bytealg.MaxLen"], apart := false, laid := [("unicode/utf8.acceptRanges", laid_unicode_utf8_acceptRanges), ("unicode/utf8.first", laid_unicode_utf8_first)], narrowed := true }
def FnExactRunWarmUptoSaid : Prop := fnExactRunWarmUptoRow.holds Tryz.pinned (OpenSpec.upto fnExactRunWarmSpec)

/-- 'laws.FnFillsOf', WHERE WHAT IT READS IS OF BULK AT MOST 1048576: true; the input reads as it did. -/
def fnFillsOfUptoRow : OpenClaim := { program := "ytoomehfflopakaagreatdoor", sum := "849b58b001986b373acbd167fdc42a9aaa3694b2f11db89f7c44ab4d8803c689", func := "loop.example/importhouse/laws.FnFillsOf", spec := "fnFillsOf", inPlace := ["internal/bytealg.CountString", "internal/bytealg.IndexByteString", "internal/bytealg.IndexString", "internal/abi.NoEscape", "internal/bytealg.MakeNoZero"], unfollowed := true, recurses := true, named := ["unicode/utf8.first", "unicode/utf8.acceptRanges", "internal/bytealg.MaxLen"], apart := false, laid := [("unicode/utf8.acceptRanges", laid_unicode_utf8_acceptRanges), ("unicode/utf8.first", laid_unicode_utf8_first)], narrowed := true }
def FnFillsOfUptoSaid : Prop := fnFillsOfUptoRow.holds Tryz.pinned (OpenSpec.upto fnFillsOfSpec)

/-- 'laws.FnRunWarm', WHERE WHAT IT READS IS OF BULK AT MOST 1048576: true; the input reads as it did. -/
def fnRunWarmUptoRow : OpenClaim := { program := "ytoomehfflopakaagreatdoor", sum := "849b58b001986b373acbd167fdc42a9aaa3694b2f11db89f7c44ab4d8803c689", func := "loop.example/importhouse/laws.FnRunWarm", spec := "fnRunWarm", inPlace := ["internal/bytealg.CountString", "internal/bytealg.IndexByteString", "internal/bytealg.IndexString", "internal/abi.NoEscape", "internal/bytealg.MakeNoZero"], unfollowed := true, recurses := true, named := ["unicode/utf8.first", "unicode/utf8.acceptRanges", "internal/bytealg.MaxLen"], apart := false, laid := [("unicode/utf8.acceptRanges", laid_unicode_utf8_acceptRanges), ("unicode/utf8.first", laid_unicode_utf8_first)], narrowed := true }
def FnRunWarmUptoSaid : Prop := fnRunWarmUptoRow.holds Tryz.pinned (OpenSpec.upto fnRunWarmSpec)

/-- 'laws.FnRunWarmAdd', WHERE WHAT IT READS IS OF BULK AT MOST 1048576: true; the input reads as it did. -/
def fnRunWarmAddUptoRow : OpenClaim := { program := "ytoomehfflopakaagreatdoor", sum := "849b58b001986b373acbd167fdc42a9aaa3694b2f11db89f7c44ab4d8803c689", func := "loop.example/importhouse/laws.FnRunWarmAdd", spec := "fnRunWarmAdd", inPlace := ["internal/bytealg.CountString", "internal/bytealg.IndexByteString", "internal/bytealg.IndexString", "internal/abi.NoEscape", "internal/bytealg.MakeNoZero"], unfollowed := true, recurses := true, named := ["unicode/utf8.first", "unicode/utf8.acceptRanges", "internal/bytealg.MaxLen"], apart := false, laid := [("unicode/utf8.acceptRanges", laid_unicode_utf8_acceptRanges), ("unicode/utf8.first", laid_unicode_utf8_first)], narrowed := true }
def FnRunWarmAddUptoSaid : Prop := fnRunWarmAddUptoRow.holds Tryz.pinned (OpenSpec.upto fnRunWarmAddSpec)

/-- 'laws.FnRunWarmHash', WHERE WHAT IT READS IS OF BULK AT MOST 1048576: true; the input reads as it did. -/
def fnRunWarmHashUptoRow : OpenClaim := { program := "ytoomehfflopakaagreatdoor", sum := "849b58b001986b373acbd167fdc42a9aaa3694b2f11db89f7c44ab4d8803c689", func := "loop.example/importhouse/laws.FnRunWarmHash", spec := "fnRunWarmHash", inPlace := ["internal/bytealg.CountString", "internal/bytealg.IndexByteString", "internal/bytealg.IndexString", "internal/abi.NoEscape", "internal/bytealg.MakeNoZero"], unfollowed := true, recurses := true, named := ["unicode/utf8.first", "unicode/utf8.acceptRanges", "internal/bytealg.MaxLen"], apart := false, laid := [("unicode/utf8.acceptRanges", laid_unicode_utf8_acceptRanges), ("unicode/utf8.first", laid_unicode_utf8_first)], narrowed := true }
def FnRunWarmHashUptoSaid : Prop := fnRunWarmHashUptoRow.holds Tryz.pinned (OpenSpec.upto fnRunWarmHashSpec)

end Rows
end Go.Proofs.YtoomehfflopakaaGreatDoor
