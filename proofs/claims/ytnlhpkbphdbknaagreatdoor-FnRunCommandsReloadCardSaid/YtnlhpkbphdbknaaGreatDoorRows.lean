/-
  NARROWER THAN 'FOR EVERY INPUT', by the rows' own cells (each row's printed sentence says how): FnRunCommands: laid · FnRunCommandsTwice: laid · FnRunCommandsLog: laid · FnRunCommandsCache: laid · FnRunCommandsForget: laid · FnRunCommandsReload: laid · FnReachOfRun: laid.
  DERIVED. THE GIVEN ROWS OF THIS SEAT. 7 by the template 'for every input the law returns true; each argument reads behind the call as it read before'; 0 by the template 'total and deterministic' (their statements: YtnlhpkbphdbknaaGreatDoorTotals.lean).
  GIVEN WITH THE SEED: the statements are not yours to turn. If you find one false, say at which input.
  Laid BY PROGRAM, IN A SANDBOX (cutbox-rows.mjs): the forced cells as the released guide's own fill.sh prints them over the translation 350023d60e46783c… (all of the seat's roots in one cut). By AI agents, Wed Nov 11 2026. No macro, syntax, notation, axiom, sorry.
-/
import Derived.Test.YtnlhpkbphdbknaaGreatDoorChecked
import GoSem.PinnedTables
import GoSem.Claim
import GoSem.ClaimJoined
import GoSem.ClaimMapViews
import Derived.JoinedTies
import Derived.KernelRfl
namespace Go.Proofs.YtnlhpkbphdbknaaGreatDoor
/- THE CELL 'sum', in the pinned program and in every row, IS THE sha256 OF THE DUMP (.gsa) THAT YtnlhpkbphdbknaaGreatDoorProg.lean LOADS. Nothing in Lean hashes anything: it is a label: what it is worth is what the hold of that sum in a sandbox is worth. -/
noncomputable def Tryz.pinned : Pinned := { name := "ytnlhpkbphdbknaagreatdoor", sum := "350023d60e46783cbad53514e10dab6d2ada713bf8b4d8fa8fe1a1029b680377", checked := Tryz.checked }
namespace Rows
def none {H : Type} : Left H := { results := [], args := [] }

/- WHAT THE LISTED PACKAGE-LEVEL VARIABLES READ AS WHEN THE CALL BEGINS. Each datum BY PROGRAM (the guide's laid-datum.mjs) off the statement by which the dump's own 'gosem.cut.vars' lays the variable. In a bare row this is a premise. The card (YtnlhpkbphdbknaaGreatDoorCards.lean) ties it to the program's text. -/
def laid_unicode_utf8_acceptRanges {H : Type} : DataW H := .agg [.agg [.lit (.int .u8 128), .lit (.int .u8 191)], .agg [.lit (.int .u8 160), .lit (.int .u8 191)], .agg [.lit (.int .u8 128), .lit (.int .u8 159)], .agg [.lit (.int .u8 144), .lit (.int .u8 191)], .agg [.lit (.int .u8 128), .lit (.int .u8 143)], .agg [.lit (.int .u8 0), .lit (.int .u8 0)], .agg [.lit (.int .u8 0), .lit (.int .u8 0)], .agg [.lit (.int .u8 0), .lit (.int .u8 0)], .agg [.lit (.int .u8 0), .lit (.int .u8 0)], .agg [.lit (.int .u8 0), .lit (.int .u8 0)], .agg [.lit (.int .u8 0), .lit (.int .u8 0)], .agg [.lit (.int .u8 0), .lit (.int .u8 0)], .agg [.lit (.int .u8 0), .lit (.int .u8 0)], .agg [.lit (.int .u8 0), .lit (.int .u8 0)], .agg [.lit (.int .u8 0), .lit (.int .u8 0)], .agg [.lit (.int .u8 0), .lit (.int .u8 0)]]
/-- One of Go's own tables, pinned by name: the form's constant. -/
def laid_unicode_utf8_first : DataW Unit := Go.Pinned.utf8First

/-- 'laws.FnRunCommands': WHATEVER THE INPUT: true; the input reads as it did. -/
def fnRunCommandsSpec : ChangeSpec := { name := "fnRunCommands", fn := fun _ => fun
  | [d] => { results := [.lit (.bool true)], args := [d] }
  | _ => none }
def fnRunCommandsRow : OpenClaim := { program := "ytnlhpkbphdbknaagreatdoor", sum := "350023d60e46783cbad53514e10dab6d2ada713bf8b4d8fa8fe1a1029b680377", func := "loop.example/importhouse/laws.FnRunCommands", spec := "fnRunCommands", inPlace := ["internal/bytealg.CountString", "internal/bytealg.IndexByteString", "internal/bytealg.IndexString"], unfollowed := true, recurses := true, named := ["unicode/utf8.first", "unicode/utf8.acceptRanges", "internal/bytealg.MaxLen"], apart := false, laid := [("unicode/utf8.acceptRanges", laid_unicode_utf8_acceptRanges), ("unicode/utf8.first", laid_unicode_utf8_first)] }
def FnRunCommandsSaid : Prop := fnRunCommandsRow.holds Tryz.pinned (OpenSpec.ofChange fnRunCommandsSpec)

/-- ITS FALSE NEIGHBOUR: 'it returns false'. Refute it at one input. -/
def fnRunCommandsWrong : ChangeSpec := { name := "fnRunCommands", fn := fun _ => fun
  | [d] => { results := [.lit (.bool false)], args := [d] }
  | _ => none }
def FnRunCommandsWrongFalsely : Prop := fnRunCommandsRow.holds Tryz.pinned (OpenSpec.ofChange fnRunCommandsWrong)

/-- 'laws.FnRunCommandsTwice': WHATEVER THE INPUT: true; the input reads as it did. -/
def fnRunCommandsTwiceSpec : ChangeSpec := { name := "fnRunCommandsTwice", fn := fun _ => fun
  | [d] => { results := [.lit (.bool true)], args := [d] }
  | _ => none }
def fnRunCommandsTwiceRow : OpenClaim := { program := "ytnlhpkbphdbknaagreatdoor", sum := "350023d60e46783cbad53514e10dab6d2ada713bf8b4d8fa8fe1a1029b680377", func := "loop.example/importhouse/laws.FnRunCommandsTwice", spec := "fnRunCommandsTwice", inPlace := ["internal/bytealg.CountString", "internal/bytealg.IndexByteString", "internal/bytealg.IndexString"], unfollowed := true, recurses := true, named := ["unicode/utf8.first", "unicode/utf8.acceptRanges", "internal/bytealg.MaxLen"], apart := false, laid := [("unicode/utf8.acceptRanges", laid_unicode_utf8_acceptRanges), ("unicode/utf8.first", laid_unicode_utf8_first)] }
def FnRunCommandsTwiceSaid : Prop := fnRunCommandsTwiceRow.holds Tryz.pinned (OpenSpec.ofChange fnRunCommandsTwiceSpec)

/-- ITS FALSE NEIGHBOUR: 'it returns false'. Refute it at one input. -/
def fnRunCommandsTwiceWrong : ChangeSpec := { name := "fnRunCommandsTwice", fn := fun _ => fun
  | [d] => { results := [.lit (.bool false)], args := [d] }
  | _ => none }
def FnRunCommandsTwiceWrongFalsely : Prop := fnRunCommandsTwiceRow.holds Tryz.pinned (OpenSpec.ofChange fnRunCommandsTwiceWrong)

/-- 'laws.FnRunCommandsLog': WHATEVER THE INPUT: true; the input reads as it did. -/
def fnRunCommandsLogSpec : ChangeSpec := { name := "fnRunCommandsLog", fn := fun _ => fun
  | [d] => { results := [.lit (.bool true)], args := [d] }
  | _ => none }
def fnRunCommandsLogRow : OpenClaim := { program := "ytnlhpkbphdbknaagreatdoor", sum := "350023d60e46783cbad53514e10dab6d2ada713bf8b4d8fa8fe1a1029b680377", func := "loop.example/importhouse/laws.FnRunCommandsLog", spec := "fnRunCommandsLog", inPlace := ["internal/bytealg.CountString", "internal/bytealg.IndexByteString", "internal/bytealg.IndexString"], unfollowed := true, recurses := true, named := ["unicode/utf8.first", "unicode/utf8.acceptRanges", "internal/bytealg.MaxLen"], apart := false, laid := [("unicode/utf8.acceptRanges", laid_unicode_utf8_acceptRanges), ("unicode/utf8.first", laid_unicode_utf8_first)] }
def FnRunCommandsLogSaid : Prop := fnRunCommandsLogRow.holds Tryz.pinned (OpenSpec.ofChange fnRunCommandsLogSpec)

/-- ITS FALSE NEIGHBOUR: 'it returns false'. Refute it at one input. -/
def fnRunCommandsLogWrong : ChangeSpec := { name := "fnRunCommandsLog", fn := fun _ => fun
  | [d] => { results := [.lit (.bool false)], args := [d] }
  | _ => none }
def FnRunCommandsLogWrongFalsely : Prop := fnRunCommandsLogRow.holds Tryz.pinned (OpenSpec.ofChange fnRunCommandsLogWrong)

/-- 'laws.FnRunCommandsCache': WHATEVER THE INPUT: true; the input reads as it did. -/
def fnRunCommandsCacheSpec : ChangeSpec := { name := "fnRunCommandsCache", fn := fun _ => fun
  | [d] => { results := [.lit (.bool true)], args := [d] }
  | _ => none }
def fnRunCommandsCacheRow : OpenClaim := { program := "ytnlhpkbphdbknaagreatdoor", sum := "350023d60e46783cbad53514e10dab6d2ada713bf8b4d8fa8fe1a1029b680377", func := "loop.example/importhouse/laws.FnRunCommandsCache", spec := "fnRunCommandsCache", inPlace := ["internal/bytealg.CountString", "internal/bytealg.IndexByteString", "internal/bytealg.IndexString"], unfollowed := true, recurses := true, named := ["unicode/utf8.first", "unicode/utf8.acceptRanges", "internal/bytealg.MaxLen"], apart := false, laid := [("unicode/utf8.acceptRanges", laid_unicode_utf8_acceptRanges), ("unicode/utf8.first", laid_unicode_utf8_first)] }
def FnRunCommandsCacheSaid : Prop := fnRunCommandsCacheRow.holds Tryz.pinned (OpenSpec.ofChange fnRunCommandsCacheSpec)

/-- ITS FALSE NEIGHBOUR: 'it returns false'. Refute it at one input. -/
def fnRunCommandsCacheWrong : ChangeSpec := { name := "fnRunCommandsCache", fn := fun _ => fun
  | [d] => { results := [.lit (.bool false)], args := [d] }
  | _ => none }
def FnRunCommandsCacheWrongFalsely : Prop := fnRunCommandsCacheRow.holds Tryz.pinned (OpenSpec.ofChange fnRunCommandsCacheWrong)

/-- 'laws.FnRunCommandsForget': WHATEVER THE INPUT: true; the input reads as it did. -/
def fnRunCommandsForgetSpec : ChangeSpec := { name := "fnRunCommandsForget", fn := fun _ => fun
  | [d] => { results := [.lit (.bool true)], args := [d] }
  | _ => none }
def fnRunCommandsForgetRow : OpenClaim := { program := "ytnlhpkbphdbknaagreatdoor", sum := "350023d60e46783cbad53514e10dab6d2ada713bf8b4d8fa8fe1a1029b680377", func := "loop.example/importhouse/laws.FnRunCommandsForget", spec := "fnRunCommandsForget", inPlace := ["internal/bytealg.CountString", "internal/bytealg.IndexByteString", "internal/bytealg.IndexString"], unfollowed := true, recurses := true, named := ["unicode/utf8.first", "unicode/utf8.acceptRanges", "internal/bytealg.MaxLen"], apart := false, laid := [("unicode/utf8.acceptRanges", laid_unicode_utf8_acceptRanges), ("unicode/utf8.first", laid_unicode_utf8_first)] }
def FnRunCommandsForgetSaid : Prop := fnRunCommandsForgetRow.holds Tryz.pinned (OpenSpec.ofChange fnRunCommandsForgetSpec)

/-- ITS FALSE NEIGHBOUR: 'it returns false'. Refute it at one input. -/
def fnRunCommandsForgetWrong : ChangeSpec := { name := "fnRunCommandsForget", fn := fun _ => fun
  | [d] => { results := [.lit (.bool false)], args := [d] }
  | _ => none }
def FnRunCommandsForgetWrongFalsely : Prop := fnRunCommandsForgetRow.holds Tryz.pinned (OpenSpec.ofChange fnRunCommandsForgetWrong)

/-- 'laws.FnRunCommandsReload': WHATEVER THE INPUT: true; the input reads as it did. -/
def fnRunCommandsReloadSpec : ChangeSpec := { name := "fnRunCommandsReload", fn := fun _ => fun
  | [d] => { results := [.lit (.bool true)], args := [d] }
  | _ => none }
def fnRunCommandsReloadRow : OpenClaim := { program := "ytnlhpkbphdbknaagreatdoor", sum := "350023d60e46783cbad53514e10dab6d2ada713bf8b4d8fa8fe1a1029b680377", func := "loop.example/importhouse/laws.FnRunCommandsReload", spec := "fnRunCommandsReload", inPlace := ["internal/bytealg.CountString", "internal/bytealg.IndexByteString", "internal/bytealg.IndexString"], unfollowed := true, recurses := true, named := ["unicode/utf8.first", "unicode/utf8.acceptRanges", "internal/bytealg.MaxLen"], apart := false, laid := [("unicode/utf8.acceptRanges", laid_unicode_utf8_acceptRanges), ("unicode/utf8.first", laid_unicode_utf8_first)] }
def FnRunCommandsReloadSaid : Prop := fnRunCommandsReloadRow.holds Tryz.pinned (OpenSpec.ofChange fnRunCommandsReloadSpec)

/-- ITS FALSE NEIGHBOUR: 'it returns false'. Refute it at one input. -/
def fnRunCommandsReloadWrong : ChangeSpec := { name := "fnRunCommandsReload", fn := fun _ => fun
  | [d] => { results := [.lit (.bool false)], args := [d] }
  | _ => none }
def FnRunCommandsReloadWrongFalsely : Prop := fnRunCommandsReloadRow.holds Tryz.pinned (OpenSpec.ofChange fnRunCommandsReloadWrong)

/-- 'laws.FnReachOfRun': WHATEVER THE INPUT: true; the input reads as it did. -/
def fnReachOfRunSpec : ChangeSpec := { name := "fnReachOfRun", fn := fun _ => fun
  | [d] => { results := [.lit (.bool true)], args := [d] }
  | _ => none }
def fnReachOfRunRow : OpenClaim := { program := "ytnlhpkbphdbknaagreatdoor", sum := "350023d60e46783cbad53514e10dab6d2ada713bf8b4d8fa8fe1a1029b680377", func := "loop.example/importhouse/laws.FnReachOfRun", spec := "fnReachOfRun", inPlace := ["internal/bytealg.CountString", "internal/bytealg.IndexByteString", "internal/bytealg.IndexString", "internal/abi.NoEscape", "internal/bytealg.MakeNoZero"], unfollowed := true, recurses := true, named := ["unicode/utf8.first", "unicode/utf8.acceptRanges", "internal/bytealg.MaxLen"], apart := false, laid := [("unicode/utf8.acceptRanges", laid_unicode_utf8_acceptRanges), ("unicode/utf8.first", laid_unicode_utf8_first)] }
def FnReachOfRunSaid : Prop := fnReachOfRunRow.holds Tryz.pinned (OpenSpec.ofChange fnReachOfRunSpec)

/-- ITS FALSE NEIGHBOUR: 'it returns false'. Refute it at one input. -/
def fnReachOfRunWrong : ChangeSpec := { name := "fnReachOfRun", fn := fun _ => fun
  | [d] => { results := [.lit (.bool false)], args := [d] }
  | _ => none }
def FnReachOfRunWrongFalsely : Prop := fnReachOfRunRow.holds Tryz.pinned (OpenSpec.ofChange fnReachOfRunWrong)

/- THE SECOND FORM. 'bulk': how many values and letters a reading holds, each counted each time it is reached (what is shared counts as often as it is met; a slice's spare places count too). A statement '..UptoSaid' is the law's where the arguments, and the package variables that the reading takes, are together of bulk at most 1048576: NARROWER than '..Said'. Prove '..Said' where nothing that the law and all that it calls make is longer than what came in: it says more and counts as full. Else prove '..UptoSaid'. A law counts once. -/
mutual
def uptoBulk {H : Type} : DataW H → Nat
  | .lit (.string bytes) => bytes.length + 1
  | .lit _ => 1
  | .nil => 1
  | .ptr d => uptoBulk d + 1
  | .slice elems spare => uptoBulkAll elems + uptoBulkAll spare + 1
  | .agg parts => uptoBulkAll parts + 1
  | .iface _ d => uptoBulk d + 1
  | .map entries => uptoBulkEntries entries + 1
  | .held _ => 1
def uptoBulkAll {H : Type} : List (DataW H) → Nat
  | [] => 0
  | d :: r => uptoBulk d + uptoBulkAll r
def uptoBulkEntries {H : Type} : List (Lit × DataW H) → Nat
  | [] => 0
  | x :: r => uptoBulkEntry x + uptoBulkEntries r
def uptoBulkEntry {H : Type} : Lit × DataW H → Nat
  | (.string bytes, d) => bytes.length + uptoBulk d + 1
  | (_, d) => uptoBulk d + 1
 end
def uptoSmall : (H : Type) → List (DataW H) → Bool := fun _ ds => decide (uptoBulkAll ds ≤ 1048576)
def OpenSpec.upto (s : _root_.Go.ChangeSpec) : _root_.Go.OpenSpec := { _root_.Go.OpenSpec.ofChange s with cond := some uptoSmall }

/-- 'laws.FnRunCommands', WHERE WHAT IT READS IS OF BULK AT MOST 1048576: true; the input reads as it did. -/
def fnRunCommandsUptoRow : OpenClaim := { program := "ytnlhpkbphdbknaagreatdoor", sum := "350023d60e46783cbad53514e10dab6d2ada713bf8b4d8fa8fe1a1029b680377", func := "loop.example/importhouse/laws.FnRunCommands", spec := "fnRunCommands", inPlace := ["internal/bytealg.CountString", "internal/bytealg.IndexByteString", "internal/bytealg.IndexString"], unfollowed := true, recurses := true, named := ["unicode/utf8.first", "unicode/utf8.acceptRanges", "internal/bytealg.MaxLen"], apart := false, laid := [("unicode/utf8.acceptRanges", laid_unicode_utf8_acceptRanges), ("unicode/utf8.first", laid_unicode_utf8_first)], narrowed := true }
def FnRunCommandsUptoSaid : Prop := fnRunCommandsUptoRow.holds Tryz.pinned (OpenSpec.upto fnRunCommandsSpec)

/-- 'laws.FnRunCommandsTwice', WHERE WHAT IT READS IS OF BULK AT MOST 1048576: true; the input reads as it did. -/
def fnRunCommandsTwiceUptoRow : OpenClaim := { program := "ytnlhpkbphdbknaagreatdoor", sum := "350023d60e46783cbad53514e10dab6d2ada713bf8b4d8fa8fe1a1029b680377", func := "loop.example/importhouse/laws.FnRunCommandsTwice", spec := "fnRunCommandsTwice", inPlace := ["internal/bytealg.CountString", "internal/bytealg.IndexByteString", "internal/bytealg.IndexString"], unfollowed := true, recurses := true, named := ["unicode/utf8.first", "unicode/utf8.acceptRanges", "internal/bytealg.MaxLen"], apart := false, laid := [("unicode/utf8.acceptRanges", laid_unicode_utf8_acceptRanges), ("unicode/utf8.first", laid_unicode_utf8_first)], narrowed := true }
def FnRunCommandsTwiceUptoSaid : Prop := fnRunCommandsTwiceUptoRow.holds Tryz.pinned (OpenSpec.upto fnRunCommandsTwiceSpec)

/-- 'laws.FnRunCommandsLog', WHERE WHAT IT READS IS OF BULK AT MOST 1048576: true; the input reads as it did. -/
def fnRunCommandsLogUptoRow : OpenClaim := { program := "ytnlhpkbphdbknaagreatdoor", sum := "350023d60e46783cbad53514e10dab6d2ada713bf8b4d8fa8fe1a1029b680377", func := "loop.example/importhouse/laws.FnRunCommandsLog", spec := "fnRunCommandsLog", inPlace := ["internal/bytealg.CountString", "internal/bytealg.IndexByteString", "internal/bytealg.IndexString"], unfollowed := true, recurses := true, named := ["unicode/utf8.first", "unicode/utf8.acceptRanges", "internal/bytealg.MaxLen"], apart := false, laid := [("unicode/utf8.acceptRanges", laid_unicode_utf8_acceptRanges), ("unicode/utf8.first", laid_unicode_utf8_first)], narrowed := true }
def FnRunCommandsLogUptoSaid : Prop := fnRunCommandsLogUptoRow.holds Tryz.pinned (OpenSpec.upto fnRunCommandsLogSpec)

/-- 'laws.FnRunCommandsCache', WHERE WHAT IT READS IS OF BULK AT MOST 1048576: true; the input reads as it did. -/
def fnRunCommandsCacheUptoRow : OpenClaim := { program := "ytnlhpkbphdbknaagreatdoor", sum := "350023d60e46783cbad53514e10dab6d2ada713bf8b4d8fa8fe1a1029b680377", func := "loop.example/importhouse/laws.FnRunCommandsCache", spec := "fnRunCommandsCache", inPlace := ["internal/bytealg.CountString", "internal/bytealg.IndexByteString", "internal/bytealg.IndexString"], unfollowed := true, recurses := true, named := ["unicode/utf8.first", "unicode/utf8.acceptRanges", "internal/bytealg.MaxLen"], apart := false, laid := [("unicode/utf8.acceptRanges", laid_unicode_utf8_acceptRanges), ("unicode/utf8.first", laid_unicode_utf8_first)], narrowed := true }
def FnRunCommandsCacheUptoSaid : Prop := fnRunCommandsCacheUptoRow.holds Tryz.pinned (OpenSpec.upto fnRunCommandsCacheSpec)

/-- 'laws.FnRunCommandsForget', WHERE WHAT IT READS IS OF BULK AT MOST 1048576: true; the input reads as it did. -/
def fnRunCommandsForgetUptoRow : OpenClaim := { program := "ytnlhpkbphdbknaagreatdoor", sum := "350023d60e46783cbad53514e10dab6d2ada713bf8b4d8fa8fe1a1029b680377", func := "loop.example/importhouse/laws.FnRunCommandsForget", spec := "fnRunCommandsForget", inPlace := ["internal/bytealg.CountString", "internal/bytealg.IndexByteString", "internal/bytealg.IndexString"], unfollowed := true, recurses := true, named := ["unicode/utf8.first", "unicode/utf8.acceptRanges", "internal/bytealg.MaxLen"], apart := false, laid := [("unicode/utf8.acceptRanges", laid_unicode_utf8_acceptRanges), ("unicode/utf8.first", laid_unicode_utf8_first)], narrowed := true }
def FnRunCommandsForgetUptoSaid : Prop := fnRunCommandsForgetUptoRow.holds Tryz.pinned (OpenSpec.upto fnRunCommandsForgetSpec)

/-- 'laws.FnRunCommandsReload', WHERE WHAT IT READS IS OF BULK AT MOST 1048576: true; the input reads as it did. -/
def fnRunCommandsReloadUptoRow : OpenClaim := { program := "ytnlhpkbphdbknaagreatdoor", sum := "350023d60e46783cbad53514e10dab6d2ada713bf8b4d8fa8fe1a1029b680377", func := "loop.example/importhouse/laws.FnRunCommandsReload", spec := "fnRunCommandsReload", inPlace := ["internal/bytealg.CountString", "internal/bytealg.IndexByteString", "internal/bytealg.IndexString"], unfollowed := true, recurses := true, named := ["unicode/utf8.first", "unicode/utf8.acceptRanges", "internal/bytealg.MaxLen"], apart := false, laid := [("unicode/utf8.acceptRanges", laid_unicode_utf8_acceptRanges), ("unicode/utf8.first", laid_unicode_utf8_first)], narrowed := true }
def FnRunCommandsReloadUptoSaid : Prop := fnRunCommandsReloadUptoRow.holds Tryz.pinned (OpenSpec.upto fnRunCommandsReloadSpec)

/-- 'laws.FnReachOfRun', WHERE WHAT IT READS IS OF BULK AT MOST 1048576: true; the input reads as it did. -/
def fnReachOfRunUptoRow : OpenClaim := { program := "ytnlhpkbphdbknaagreatdoor", sum := "350023d60e46783cbad53514e10dab6d2ada713bf8b4d8fa8fe1a1029b680377", func := "loop.example/importhouse/laws.FnReachOfRun", spec := "fnReachOfRun", inPlace := ["internal/bytealg.CountString", "internal/bytealg.IndexByteString", "internal/bytealg.IndexString", "internal/abi.NoEscape", "internal/bytealg.MakeNoZero"], unfollowed := true, recurses := true, named := ["unicode/utf8.first", "unicode/utf8.acceptRanges", "internal/bytealg.MaxLen"], apart := false, laid := [("unicode/utf8.acceptRanges", laid_unicode_utf8_acceptRanges), ("unicode/utf8.first", laid_unicode_utf8_first)], narrowed := true }
def FnReachOfRunUptoSaid : Prop := fnReachOfRunUptoRow.holds Tryz.pinned (OpenSpec.upto fnReachOfRunSpec)

end Rows
end Go.Proofs.YtnlhpkbphdbknaaGreatDoor
