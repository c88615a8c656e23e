/-
  NARROWER THAN 'FOR EVERY INPUT', by the rows' own cells (each row's printed sentence says how): FnExactSameFinds: laid · FnStaleDirs: laid · FnKidsOf: laid · FnExactFoundNames: laid · FnExactStaleDirs: laid.
  DERIVED. THE GIVEN ROWS OF THIS SEAT. 5 by the template 'for every input the law returns true; each argument reads behind the call as it read before'; 0 by the template 'total and deterministic' (their statements: YtionokffhhiicaaGreatDoorTotals.lean).
  GIVEN WITH THE SEED: the statements are not yours to turn. If you find one false, say at which input.
  Laid BY PROGRAM, IN A SANDBOX (cutbox-rows.mjs): the forced cells as the released guide's own fill.sh prints them over the translation 15f20e8c5f7ef087… (all of the seat's roots in one cut). By AI agents, Wed Nov 11 2026. No macro, syntax, notation, axiom, sorry.
-/
import Derived.Test.YtionokffhhiicaaGreatDoorChecked
import GoSem.PinnedTables
import GoSem.Claim
import GoSem.ClaimJoined
import GoSem.ClaimMapViews
import Derived.JoinedTies
import Derived.KernelRfl
namespace Go.Proofs.YtionokffhhiicaaGreatDoor
/- THE CELL 'sum', in the pinned program and in every row, IS THE sha256 OF THE DUMP (.gsa) THAT YtionokffhhiicaaGreatDoorProg.lean LOADS. Nothing in Lean hashes anything: it is a label: what it is worth is what the hold of that sum in a sandbox is worth. -/
noncomputable def Tryz.pinned : Pinned := { name := "ytionokffhhiicaagreatdoor", sum := "15f20e8c5f7ef08732a9d2692ff4bd2b7ba86c94ae32cb367397a72999162e43", checked := Tryz.checked }
namespace Rows
def none {H : Type} : Left H := { results := [], args := [] }

/- WHAT THE LISTED PACKAGE-LEVEL VARIABLES READ AS WHEN THE CALL BEGINS. Each datum BY PROGRAM (the guide's laid-datum.mjs) off the statement by which the dump's own 'gosem.cut.vars' lays the variable. In a bare row this is a premise. The card (YtionokffhhiicaaGreatDoorCards.lean) ties it to the program's text. -/
def laid_unicode_utf8_acceptRanges {H : Type} : DataW H := .agg [.agg [.lit (.int .u8 128), .lit (.int .u8 191)], .agg [.lit (.int .u8 160), .lit (.int .u8 191)], .agg [.lit (.int .u8 128), .lit (.int .u8 159)], .agg [.lit (.int .u8 144), .lit (.int .u8 191)], .agg [.lit (.int .u8 128), .lit (.int .u8 143)], .agg [.lit (.int .u8 0), .lit (.int .u8 0)], .agg [.lit (.int .u8 0), .lit (.int .u8 0)], .agg [.lit (.int .u8 0), .lit (.int .u8 0)], .agg [.lit (.int .u8 0), .lit (.int .u8 0)], .agg [.lit (.int .u8 0), .lit (.int .u8 0)], .agg [.lit (.int .u8 0), .lit (.int .u8 0)], .agg [.lit (.int .u8 0), .lit (.int .u8 0)], .agg [.lit (.int .u8 0), .lit (.int .u8 0)], .agg [.lit (.int .u8 0), .lit (.int .u8 0)], .agg [.lit (.int .u8 0), .lit (.int .u8 0)], .agg [.lit (.int .u8 0), .lit (.int .u8 0)]]
/-- One of Go's own tables, pinned by name: the form's constant. -/
def laid_unicode_utf8_first : DataW Unit := Go.Pinned.utf8First

/-- 'laws.FnExactSameFinds': WHATEVER THE INPUT: true; the input reads as it did. -/
def fnExactSameFindsSpec : ChangeSpec := { name := "fnExactSameFinds", fn := fun _ => fun
  | [d1, d2, d3] => { results := [.lit (.bool true)], args := [d1, d2, d3] }
  | _ => none }
def fnExactSameFindsRow : OpenClaim := { program := "ytionokffhhiicaagreatdoor", sum := "15f20e8c5f7ef08732a9d2692ff4bd2b7ba86c94ae32cb367397a72999162e43", func := "loop.example/importhouse/laws.FnExactSameFinds", spec := "fnExactSameFinds", inPlace := ["internal/bytealg.CountString", "internal/bytealg.IndexByteString", "internal/bytealg.IndexString", "internal/abi.NoEscape", "internal/bytealg.MakeNoZero"], unfollowed := true, recurses := true, named := ["unicode/utf8.first", "unicode/utf8.acceptRanges", "internal/bytealg.MaxLen"], apart := false, laid := [("unicode/utf8.acceptRanges", laid_unicode_utf8_acceptRanges), ("unicode/utf8.first", laid_unicode_utf8_first)] }
def FnExactSameFindsSaid : Prop := fnExactSameFindsRow.holds Tryz.pinned (OpenSpec.ofChange fnExactSameFindsSpec)

/-- ITS FALSE NEIGHBOUR: 'it returns false'. Refute it at one input. -/
def fnExactSameFindsWrong : ChangeSpec := { name := "fnExactSameFinds", fn := fun _ => fun
  | [d1, d2, d3] => { results := [.lit (.bool false)], args := [d1, d2, d3] }
  | _ => none }
def FnExactSameFindsWrongFalsely : Prop := fnExactSameFindsRow.holds Tryz.pinned (OpenSpec.ofChange fnExactSameFindsWrong)

/-- 'laws.FnStaleDirs': WHATEVER THE INPUT: true; the input reads as it did. -/
def fnStaleDirsSpec : ChangeSpec := { name := "fnStaleDirs", fn := fun _ => fun
  | [d] => { results := [.lit (.bool true)], args := [d] }
  | _ => none }
def fnStaleDirsRow : OpenClaim := { program := "ytionokffhhiicaagreatdoor", sum := "15f20e8c5f7ef08732a9d2692ff4bd2b7ba86c94ae32cb367397a72999162e43", func := "loop.example/importhouse/laws.FnStaleDirs", spec := "fnStaleDirs", inPlace := ["internal/bytealg.CountString", "internal/bytealg.IndexByteString", "internal/bytealg.IndexString"], unfollowed := true, recurses := true, named := ["unicode/utf8.first", "unicode/utf8.acceptRanges", "internal/bytealg.MaxLen"], apart := false, laid := [("unicode/utf8.acceptRanges", laid_unicode_utf8_acceptRanges), ("unicode/utf8.first", laid_unicode_utf8_first)] }
def FnStaleDirsSaid : Prop := fnStaleDirsRow.holds Tryz.pinned (OpenSpec.ofChange fnStaleDirsSpec)

/-- ITS FALSE NEIGHBOUR: 'it returns false'. Refute it at one input. -/
def fnStaleDirsWrong : ChangeSpec := { name := "fnStaleDirs", fn := fun _ => fun
  | [d] => { results := [.lit (.bool false)], args := [d] }
  | _ => none }
def FnStaleDirsWrongFalsely : Prop := fnStaleDirsRow.holds Tryz.pinned (OpenSpec.ofChange fnStaleDirsWrong)

/-- 'laws.FnKidsOf': WHATEVER THE INPUT: true; the input reads as it did. -/
def fnKidsOfSpec : ChangeSpec := { name := "fnKidsOf", fn := fun _ => fun
  | [d] => { results := [.lit (.bool true)], args := [d] }
  | _ => none }
def fnKidsOfRow : OpenClaim := { program := "ytionokffhhiicaagreatdoor", sum := "15f20e8c5f7ef08732a9d2692ff4bd2b7ba86c94ae32cb367397a72999162e43", func := "loop.example/importhouse/laws.FnKidsOf", spec := "fnKidsOf", inPlace := ["internal/bytealg.CountString", "internal/bytealg.IndexByteString", "internal/bytealg.IndexString", "internal/abi.NoEscape", "internal/bytealg.MakeNoZero"], unfollowed := true, recurses := true, named := ["unicode/utf8.first", "unicode/utf8.acceptRanges", "internal/bytealg.MaxLen"], apart := false, laid := [("unicode/utf8.acceptRanges", laid_unicode_utf8_acceptRanges), ("unicode/utf8.first", laid_unicode_utf8_first)] }
def FnKidsOfSaid : Prop := fnKidsOfRow.holds Tryz.pinned (OpenSpec.ofChange fnKidsOfSpec)

/-- ITS FALSE NEIGHBOUR: 'it returns false'. Refute it at one input. -/
def fnKidsOfWrong : ChangeSpec := { name := "fnKidsOf", fn := fun _ => fun
  | [d] => { results := [.lit (.bool false)], args := [d] }
  | _ => none }
def FnKidsOfWrongFalsely : Prop := fnKidsOfRow.holds Tryz.pinned (OpenSpec.ofChange fnKidsOfWrong)

/-- 'laws.FnExactFoundNames': WHATEVER THE INPUT: true; the input reads as it did. -/
def fnExactFoundNamesSpec : ChangeSpec := { name := "fnExactFoundNames", fn := fun _ => fun
  | [d1, d2] => { results := [.lit (.bool true)], args := [d1, d2] }
  | _ => none }
def fnExactFoundNamesRow : OpenClaim := { program := "ytionokffhhiicaagreatdoor", sum := "15f20e8c5f7ef08732a9d2692ff4bd2b7ba86c94ae32cb367397a72999162e43", func := "loop.example/importhouse/laws.FnExactFoundNames", spec := "fnExactFoundNames", inPlace := ["internal/bytealg.CountString", "internal/bytealg.IndexByteString", "internal/bytealg.IndexString", "internal/abi.NoEscape", "internal/bytealg.MakeNoZero"], unfollowed := true, recurses := true, named := ["unicode/utf8.first", "unicode/utf8.acceptRanges", "internal/bytealg.MaxLen"], apart := false, laid := [("unicode/utf8.acceptRanges", laid_unicode_utf8_acceptRanges), ("unicode/utf8.first", laid_unicode_utf8_first)] }
def FnExactFoundNamesSaid : Prop := fnExactFoundNamesRow.holds Tryz.pinned (OpenSpec.ofChange fnExactFoundNamesSpec)

/-- ITS FALSE NEIGHBOUR: 'it returns false'. Refute it at one input. -/
def fnExactFoundNamesWrong : ChangeSpec := { name := "fnExactFoundNames", fn := fun _ => fun
  | [d1, d2] => { results := [.lit (.bool false)], args := [d1, d2] }
  | _ => none }
def FnExactFoundNamesWrongFalsely : Prop := fnExactFoundNamesRow.holds Tryz.pinned (OpenSpec.ofChange fnExactFoundNamesWrong)

/-- 'laws.FnExactStaleDirs': WHATEVER THE INPUT: true; the input reads as it did. -/
def fnExactStaleDirsSpec : ChangeSpec := { name := "fnExactStaleDirs", fn := fun _ => fun
  | [d1, d2] => { results := [.lit (.bool true)], args := [d1, d2] }
  | _ => none }
def fnExactStaleDirsRow : OpenClaim := { program := "ytionokffhhiicaagreatdoor", sum := "15f20e8c5f7ef08732a9d2692ff4bd2b7ba86c94ae32cb367397a72999162e43", func := "loop.example/importhouse/laws.FnExactStaleDirs", spec := "fnExactStaleDirs", inPlace := ["internal/bytealg.CountString", "internal/bytealg.IndexByteString", "internal/bytealg.IndexString"], unfollowed := true, recurses := true, named := ["unicode/utf8.first", "unicode/utf8.acceptRanges", "internal/bytealg.MaxLen"], apart := false, laid := [("unicode/utf8.acceptRanges", laid_unicode_utf8_acceptRanges), ("unicode/utf8.first", laid_unicode_utf8_first)] }
def FnExactStaleDirsSaid : Prop := fnExactStaleDirsRow.holds Tryz.pinned (OpenSpec.ofChange fnExactStaleDirsSpec)

/-- ITS FALSE NEIGHBOUR: 'it returns false'. Refute it at one input. -/
def fnExactStaleDirsWrong : ChangeSpec := { name := "fnExactStaleDirs", fn := fun _ => fun
  | [d1, d2] => { results := [.lit (.bool false)], args := [d1, d2] }
  | _ => none }
def FnExactStaleDirsWrongFalsely : Prop := fnExactStaleDirsRow.holds Tryz.pinned (OpenSpec.ofChange fnExactStaleDirsWrong)

/- THE SECOND FORM. 'bulk': how many values and letters a reading holds, each counted each time it is reached (what is shared counts as often as it is met; a slice's spare places count too). A statement '..UptoSaid' is the law's where the arguments, and the package variables that the reading takes, are together of bulk at most 1048576: NARROWER than '..Said'. Prove '..Said' where nothing that the law and all that it calls make is longer than what came in: it says more and counts as full. Else prove '..UptoSaid'. A law counts once. -/
mutual
def uptoBulk {H : Type} : DataW H → Nat
  | .lit (.string bytes) => bytes.length + 1
  | .lit _ => 1
  | .nil => 1
  | .ptr d => uptoBulk d + 1
  | .slice elems spare => uptoBulkAll elems + uptoBulkAll spare + 1
  | .agg parts => uptoBulkAll parts + 1
  | .iface _ d => uptoBulk d + 1
  | .map entries => uptoBulkEntries entries + 1
  | .held _ => 1
def uptoBulkAll {H : Type} : List (DataW H) → Nat
  | [] => 0
  | d :: r => uptoBulk d + uptoBulkAll r
def uptoBulkEntries {H : Type} : List (Lit × DataW H) → Nat
  | [] => 0
  | x :: r => uptoBulkEntry x + uptoBulkEntries r
def uptoBulkEntry {H : Type} : Lit × DataW H → Nat
  | (.string bytes, d) => bytes.length + uptoBulk d + 1
  | (_, d) => uptoBulk d + 1
 end
def uptoSmall : (H : Type) → List (DataW H) → Bool := fun _ ds => decide (uptoBulkAll ds ≤ 1048576)
def OpenSpec.upto (s : _root_.Go.ChangeSpec) : _root_.Go.OpenSpec := { _root_.Go.OpenSpec.ofChange s with cond := some uptoSmall }

/-- 'laws.FnExactSameFinds', WHERE WHAT IT READS IS OF BULK AT MOST 1048576: true; the input reads as it did. -/
def fnExactSameFindsUptoRow : OpenClaim := { program := "ytionokffhhiicaagreatdoor", sum := "15f20e8c5f7ef08732a9d2692ff4bd2b7ba86c94ae32cb367397a72999162e43", func := "loop.example/importhouse/laws.FnExactSameFinds", spec := "fnExactSameFinds", inPlace := ["internal/bytealg.CountString", "internal/bytealg.IndexByteString", "internal/bytealg.IndexString", "internal/abi.NoEscape", "internal/bytealg.MakeNoZero"], unfollowed := true, recurses := true, named := ["unicode/utf8.first", "unicode/utf8.acceptRanges", "internal/bytealg.MaxLen"], apart := false, laid := [("unicode/utf8.acceptRanges", laid_unicode_utf8_acceptRanges), ("unicode/utf8.first", laid_unicode_utf8_first)], narrowed := true }
def FnExactSameFindsUptoSaid : Prop := fnExactSameFindsUptoRow.holds Tryz.pinned (OpenSpec.upto fnExactSameFindsSpec)

/-- 'laws.FnStaleDirs', WHERE WHAT IT READS IS OF BULK AT MOST 1048576: true; the input reads as it did. -/
def fnStaleDirsUptoRow : OpenClaim := { program := "ytionokffhhiicaagreatdoor", sum := "15f20e8c5f7ef08732a9d2692ff4bd2b7ba86c94ae32cb367397a72999162e43", func := "loop.example/importhouse/laws.FnStaleDirs", spec := "fnStaleDirs", inPlace := ["internal/bytealg.CountString", "internal/bytealg.IndexByteString", "internal/bytealg.IndexString"], unfollowed := true, recurses := true, named := ["unicode/utf8.first", "unicode/utf8.acceptRanges", "internal/bytealg.MaxLen"], apart := false, laid := [("unicode/utf8.acceptRanges", laid_unicode_utf8_acceptRanges), ("unicode/utf8.first", laid_unicode_utf8_first)], narrowed := true }
def FnStaleDirsUptoSaid : Prop := fnStaleDirsUptoRow.holds Tryz.pinned (OpenSpec.upto fnStaleDirsSpec)

/-- 'laws.FnKidsOf', WHERE WHAT IT READS IS OF BULK AT MOST 1048576: true; the input reads as it did. -/
def fnKidsOfUptoRow : OpenClaim := { program := "ytionokffhhiicaagreatdoor", sum := "15f20e8c5f7ef08732a9d2692ff4bd2b7ba86c94ae32cb367397a72999162e43", func := "loop.example/importhouse/laws.FnKidsOf", spec := "fnKidsOf", inPlace := ["internal/bytealg.CountString", "internal/bytealg.IndexByteString", "internal/bytealg.IndexString", "internal/abi.NoEscape", "internal/bytealg.MakeNoZero"], unfollowed := true, recurses := true, named := ["unicode/utf8.first", "unicode/utf8.acceptRanges", "internal/bytealg.MaxLen"], apart := false, laid := [("unicode/utf8.acceptRanges", laid_unicode_utf8_acceptRanges), ("unicode/utf8.first", laid_unicode_utf8_first)], narrowed := true }
def FnKidsOfUptoSaid : Prop := fnKidsOfUptoRow.holds Tryz.pinned (OpenSpec.upto fnKidsOfSpec)

/-- 'laws.FnExactFoundNames', WHERE WHAT IT READS IS OF BULK AT MOST 1048576: true; the input reads as it did. -/
def fnExactFoundNamesUptoRow : OpenClaim := { program := "ytionokffhhiicaagreatdoor", sum := "15f20e8c5f7ef08732a9d2692ff4bd2b7ba86c94ae32cb367397a72999162e43", func := "loop.example/importhouse/laws.FnExactFoundNames", spec := "fnExactFoundNames", inPlace := ["internal/bytealg.CountString", "internal/bytealg.IndexByteString", "internal/bytealg.IndexString", "internal/abi.NoEscape", "internal/bytealg.MakeNoZero"], unfollowed := true, recurses := true, named := ["unicode/utf8.first", "unicode/utf8.acceptRanges", "internal/bytealg.MaxLen"], apart := false, laid := [("unicode/utf8.acceptRanges", laid_unicode_utf8_acceptRanges), ("unicode/utf8.first", laid_unicode_utf8_first)], narrowed := true }
def FnExactFoundNamesUptoSaid : Prop := fnExactFoundNamesUptoRow.holds Tryz.pinned (OpenSpec.upto fnExactFoundNamesSpec)

/-- 'laws.FnExactStaleDirs', WHERE WHAT IT READS IS OF BULK AT MOST 1048576: true; the input reads as it did. -/
def fnExactStaleDirsUptoRow : OpenClaim := { program := "ytionokffhhiicaagreatdoor", sum := "15f20e8c5f7ef08732a9d2692ff4bd2b7ba86c94ae32cb367397a72999162e43", func := "loop.example/importhouse/laws.FnExactStaleDirs", spec := "fnExactStaleDirs", inPlace := ["internal/bytealg.CountString", "internal/bytealg.IndexByteString", "internal/bytealg.IndexString"], unfollowed := true, recurses := true, named := ["unicode/utf8.first", "unicode/utf8.acceptRanges", "internal/bytealg.MaxLen"], apart := false, laid := [("unicode/utf8.acceptRanges", laid_unicode_utf8_acceptRanges), ("unicode/utf8.first", laid_unicode_utf8_first)], narrowed := true }
def FnExactStaleDirsUptoSaid : Prop := fnExactStaleDirsUptoRow.holds Tryz.pinned (OpenSpec.upto fnExactStaleDirsSpec)

end Rows
end Go.Proofs.YtionokffhhiicaaGreatDoor
