/-
  NARROWER THAN 'FOR EVERY INPUT', by the rows' own cells (each row's printed sentence says how): FnExactFindCached: laid · FnFindCached: laid · FnFindCachedTwice: laid · FnFindCachedOld: laid · FnStaleDirs: laid.
  DERIVED. THE GIVEN ROWS OF THIS SEAT. 5 by the template 'for every input the law returns true; each argument reads behind the call as it read before'; 0 by the template 'total and deterministic' (their statements: YtdoidiipacdbpaaGreatDoorTotals.lean).
  GIVEN WITH THE SEED: the statements are not yours to turn. If you find one false, say at which input.
  Laid BY PROGRAM, IN A SANDBOX (cutbox-rows.mjs): the forced cells as the released guide's own fill.sh prints them over the translation 1dd378f23c5a0d2f… (all of the seat's roots in one cut). By AI agents, Wed Nov 11 2026. No macro, syntax, notation, axiom, sorry.
-/
import Derived.Test.YtdoidiipacdbpaaGreatDoorChecked
import GoSem.PinnedTables
import GoSem.Claim
import GoSem.ClaimJoined
import GoSem.ClaimMapViews
import Derived.JoinedTies
import Derived.KernelRfl
namespace Go.Proofs.YtdoidiipacdbpaaGreatDoor
/- THE CELL 'sum', in the pinned program and in every row, IS THE sha256 OF THE DUMP (.gsa) THAT YtdoidiipacdbpaaGreatDoorProg.lean LOADS. Nothing in Lean hashes anything: it is a label: what it is worth is what the hold of that sum in a sandbox is worth. -/
noncomputable def Tryz.pinned : Pinned := { name := "ytdoidiipacdbpaagreatdoor", sum := "1dd378f23c5a0d2fceab464aefa2c64379eebe7fd2362300f5319780c6cc2bc8", checked := Tryz.checked }
namespace Rows
def none {H : Type} : Left H := { results := [], args := [] }

/- WHAT THE LISTED PACKAGE-LEVEL VARIABLES READ AS WHEN THE CALL BEGINS. Each datum BY PROGRAM (the guide's laid-datum.mjs) off the statement by which the dump's own 'gosem.cut.vars' lays the variable. In a bare row this is a premise. The card (YtdoidiipacdbpaaGreatDoorCards.lean) ties it to the program's text. -/
def laid_unicode_utf8_acceptRanges {H : Type} : DataW H := .agg [.agg [.lit (.int .u8 128), .lit (.int .u8 191)], .agg [.lit (.int .u8 160), .lit (.int .u8 191)], .agg [.lit (.int .u8 128), .lit (.int .u8 159)], .agg [.lit (.int .u8 144), .lit (.int .u8 191)], .agg [.lit (.int .u8 128), .lit (.int .u8 143)], .agg [.lit (.int .u8 0), .lit (.int .u8 0)], .agg [.lit (.int .u8 0), .lit (.int .u8 0)], .agg [.lit (.int .u8 0), .lit (.int .u8 0)], .agg [.lit (.int .u8 0), .lit (.int .u8 0)], .agg [.lit (.int .u8 0), .lit (.int .u8 0)], .agg [.lit (.int .u8 0), .lit (.int .u8 0)], .agg [.lit (.int .u8 0), .lit (.int .u8 0)], .agg [.lit (.int .u8 0), .lit (.int .u8 0)], .agg [.lit (.int .u8 0), .lit (.int .u8 0)], .agg [.lit (.int .u8 0), .lit (.int .u8 0)], .agg [.lit (.int .u8 0), .lit (.int .u8 0)]]
/-- One of Go's own tables, pinned by name: the form's constant. -/
def laid_unicode_utf8_first : DataW Unit := Go.Pinned.utf8First

/-- 'laws.FnExactFindCached': WHATEVER THE INPUT: true; the input reads as it did. -/
def fnExactFindCachedSpec : ChangeSpec := { name := "fnExactFindCached", fn := fun _ => fun
  | [d1, d2, d3, d4] => { results := [.lit (.bool true)], args := [d1, d2, d3, d4] }
  | _ => none }
def fnExactFindCachedRow : OpenClaim := { program := "ytdoidiipacdbpaagreatdoor", sum := "1dd378f23c5a0d2fceab464aefa2c64379eebe7fd2362300f5319780c6cc2bc8", func := "loop.example/importhouse/laws.FnExactFindCached", spec := "fnExactFindCached", inPlace := ["internal/bytealg.CountString", "internal/bytealg.IndexByteString", "internal/bytealg.IndexString"], unfollowed := true, recurses := true, named := ["unicode/utf8.first", "unicode/utf8.acceptRanges", "internal/bytealg.MaxLen"], apart := false, laid := [("unicode/utf8.acceptRanges", laid_unicode_utf8_acceptRanges), ("unicode/utf8.first", laid_unicode_utf8_first)] }
def FnExactFindCachedSaid : Prop := fnExactFindCachedRow.holds Tryz.pinned (OpenSpec.ofChange fnExactFindCachedSpec)

/-- ITS FALSE NEIGHBOUR: 'it returns false'. Refute it at one input. -/
def fnExactFindCachedWrong : ChangeSpec := { name := "fnExactFindCached", fn := fun _ => fun
  | [d1, d2, d3, d4] => { results := [.lit (.bool false)], args := [d1, d2, d3, d4] }
  | _ => none }
def FnExactFindCachedWrongFalsely : Prop := fnExactFindCachedRow.holds Tryz.pinned (OpenSpec.ofChange fnExactFindCachedWrong)

/-- 'laws.FnFindCached': WHATEVER THE INPUT: true; the input reads as it did. -/
def fnFindCachedSpec : ChangeSpec := { name := "fnFindCached", fn := fun _ => fun
  | [d] => { results := [.lit (.bool true)], args := [d] }
  | _ => none }
def fnFindCachedRow : OpenClaim := { program := "ytdoidiipacdbpaagreatdoor", sum := "1dd378f23c5a0d2fceab464aefa2c64379eebe7fd2362300f5319780c6cc2bc8", func := "loop.example/importhouse/laws.FnFindCached", spec := "fnFindCached", inPlace := ["internal/bytealg.CountString", "internal/bytealg.IndexByteString", "internal/bytealg.IndexString"], unfollowed := true, recurses := true, named := ["unicode/utf8.first", "unicode/utf8.acceptRanges", "internal/bytealg.MaxLen"], apart := false, laid := [("unicode/utf8.acceptRanges", laid_unicode_utf8_acceptRanges), ("unicode/utf8.first", laid_unicode_utf8_first)] }
def FnFindCachedSaid : Prop := fnFindCachedRow.holds Tryz.pinned (OpenSpec.ofChange fnFindCachedSpec)

/-- ITS FALSE NEIGHBOUR: 'it returns false'. Refute it at one input. -/
def fnFindCachedWrong : ChangeSpec := { name := "fnFindCached", fn := fun _ => fun
  | [d] => { results := [.lit (.bool false)], args := [d] }
  | _ => none }
def FnFindCachedWrongFalsely : Prop := fnFindCachedRow.holds Tryz.pinned (OpenSpec.ofChange fnFindCachedWrong)

/-- 'laws.FnFindCachedTwice': WHATEVER THE INPUT: true; the input reads as it did. -/
def fnFindCachedTwiceSpec : ChangeSpec := { name := "fnFindCachedTwice", fn := fun _ => fun
  | [d] => { results := [.lit (.bool true)], args := [d] }
  | _ => none }
def fnFindCachedTwiceRow : OpenClaim := { program := "ytdoidiipacdbpaagreatdoor", sum := "1dd378f23c5a0d2fceab464aefa2c64379eebe7fd2362300f5319780c6cc2bc8", func := "loop.example/importhouse/laws.FnFindCachedTwice", spec := "fnFindCachedTwice", inPlace := ["internal/bytealg.CountString", "internal/bytealg.IndexByteString", "internal/bytealg.IndexString"], unfollowed := true, recurses := true, named := ["unicode/utf8.first", "unicode/utf8.acceptRanges", "internal/bytealg.MaxLen"], apart := false, laid := [("unicode/utf8.acceptRanges", laid_unicode_utf8_acceptRanges), ("unicode/utf8.first", laid_unicode_utf8_first)] }
def FnFindCachedTwiceSaid : Prop := fnFindCachedTwiceRow.holds Tryz.pinned (OpenSpec.ofChange fnFindCachedTwiceSpec)

/-- ITS FALSE NEIGHBOUR: 'it returns false'. Refute it at one input. -/
def fnFindCachedTwiceWrong : ChangeSpec := { name := "fnFindCachedTwice", fn := fun _ => fun
  | [d] => { results := [.lit (.bool false)], args := [d] }
  | _ => none }
def FnFindCachedTwiceWrongFalsely : Prop := fnFindCachedTwiceRow.holds Tryz.pinned (OpenSpec.ofChange fnFindCachedTwiceWrong)

/-- 'laws.FnFindCachedOld': WHATEVER THE INPUT: true; the input reads as it did. -/
def fnFindCachedOldSpec : ChangeSpec := { name := "fnFindCachedOld", fn := fun _ => fun
  | [d] => { results := [.lit (.bool true)], args := [d] }
  | _ => none }
def fnFindCachedOldRow : OpenClaim := { program := "ytdoidiipacdbpaagreatdoor", sum := "1dd378f23c5a0d2fceab464aefa2c64379eebe7fd2362300f5319780c6cc2bc8", func := "loop.example/importhouse/laws.FnFindCachedOld", spec := "fnFindCachedOld", inPlace := ["internal/bytealg.CountString", "internal/bytealg.IndexByteString", "internal/bytealg.IndexString"], unfollowed := true, recurses := true, named := ["unicode/utf8.first", "unicode/utf8.acceptRanges", "internal/bytealg.MaxLen"], apart := false, laid := [("unicode/utf8.acceptRanges", laid_unicode_utf8_acceptRanges), ("unicode/utf8.first", laid_unicode_utf8_first)] }
def FnFindCachedOldSaid : Prop := fnFindCachedOldRow.holds Tryz.pinned (OpenSpec.ofChange fnFindCachedOldSpec)

/-- ITS FALSE NEIGHBOUR: 'it returns false'. Refute it at one input. -/
def fnFindCachedOldWrong : ChangeSpec := { name := "fnFindCachedOld", fn := fun _ => fun
  | [d] => { results := [.lit (.bool false)], args := [d] }
  | _ => none }
def FnFindCachedOldWrongFalsely : Prop := fnFindCachedOldRow.holds Tryz.pinned (OpenSpec.ofChange fnFindCachedOldWrong)

/-- 'laws.FnStaleDirs': WHATEVER THE INPUT: true; the input reads as it did. -/
def fnStaleDirsSpec : ChangeSpec := { name := "fnStaleDirs", fn := fun _ => fun
  | [d] => { results := [.lit (.bool true)], args := [d] }
  | _ => none }
def fnStaleDirsRow : OpenClaim := { program := "ytdoidiipacdbpaagreatdoor", sum := "1dd378f23c5a0d2fceab464aefa2c64379eebe7fd2362300f5319780c6cc2bc8", func := "loop.example/importhouse/laws.FnStaleDirs", spec := "fnStaleDirs", inPlace := ["internal/bytealg.CountString", "internal/bytealg.IndexByteString", "internal/bytealg.IndexString"], unfollowed := true, recurses := true, named := ["unicode/utf8.first", "unicode/utf8.acceptRanges", "internal/bytealg.MaxLen"], apart := false, laid := [("unicode/utf8.acceptRanges", laid_unicode_utf8_acceptRanges), ("unicode/utf8.first", laid_unicode_utf8_first)] }
def FnStaleDirsSaid : Prop := fnStaleDirsRow.holds Tryz.pinned (OpenSpec.ofChange fnStaleDirsSpec)

/-- ITS FALSE NEIGHBOUR: 'it returns false'. Refute it at one input. -/
def fnStaleDirsWrong : ChangeSpec := { name := "fnStaleDirs", fn := fun _ => fun
  | [d] => { results := [.lit (.bool false)], args := [d] }
  | _ => none }
def FnStaleDirsWrongFalsely : Prop := fnStaleDirsRow.holds Tryz.pinned (OpenSpec.ofChange fnStaleDirsWrong)

/- THE SECOND FORM. 'bulk': how many values and letters a reading holds, each counted each time it is reached (what is shared counts as often as it is met; a slice's spare places count too). A statement '..UptoSaid' is the law's where the arguments, and the package variables that the reading takes, are together of bulk at most 1048576: NARROWER than '..Said'. Prove '..Said' where nothing that the law and all that it calls make is longer than what came in: it says more and counts as full. Else prove '..UptoSaid'. A law counts once. -/
mutual
def uptoBulk {H : Type} : DataW H → Nat
  | .lit (.string bytes) => bytes.length + 1
  | .lit _ => 1
  | .nil => 1
  | .ptr d => uptoBulk d + 1
  | .slice elems spare => uptoBulkAll elems + uptoBulkAll spare + 1
  | .agg parts => uptoBulkAll parts + 1
  | .iface _ d => uptoBulk d + 1
  | .map entries => uptoBulkEntries entries + 1
  | .held _ => 1
def uptoBulkAll {H : Type} : List (DataW H) → Nat
  | [] => 0
  | d :: r => uptoBulk d + uptoBulkAll r
def uptoBulkEntries {H : Type} : List (Lit × DataW H) → Nat
  | [] => 0
  | x :: r => uptoBulkEntry x + uptoBulkEntries r
def uptoBulkEntry {H : Type} : Lit × DataW H → Nat
  | (.string bytes, d) => bytes.length + uptoBulk d + 1
  | (_, d) => uptoBulk d + 1
 end
def uptoSmall : (H : Type) → List (DataW H) → Bool := fun _ ds => decide (uptoBulkAll ds ≤ 1048576)
def OpenSpec.upto (s : _root_.Go.ChangeSpec) : _root_.Go.OpenSpec := { _root_.Go.OpenSpec.ofChange s with cond := some uptoSmall }

/-- 'laws.FnExactFindCached', WHERE WHAT IT READS IS OF BULK AT MOST 1048576: true; the input reads as it did. -/
def fnExactFindCachedUptoRow : OpenClaim := { program := "ytdoidiipacdbpaagreatdoor", sum := "1dd378f23c5a0d2fceab464aefa2c64379eebe7fd2362300f5319780c6cc2bc8", func := "loop.example/importhouse/laws.FnExactFindCached", spec := "fnExactFindCached", inPlace := ["internal/bytealg.CountString", "internal/bytealg.IndexByteString", "internal/bytealg.IndexString"], unfollowed := true, recurses := true, named := ["unicode/utf8.first", "unicode/utf8.acceptRanges", "internal/bytealg.MaxLen"], apart := false, laid := [("unicode/utf8.acceptRanges", laid_unicode_utf8_acceptRanges), ("unicode/utf8.first", laid_unicode_utf8_first)], narrowed := true }
def FnExactFindCachedUptoSaid : Prop := fnExactFindCachedUptoRow.holds Tryz.pinned (OpenSpec.upto fnExactFindCachedSpec)

/-- 'laws.FnFindCached', WHERE WHAT IT READS IS OF BULK AT MOST 1048576: true; the input reads as it did. -/
def fnFindCachedUptoRow : OpenClaim := { program := "ytdoidiipacdbpaagreatdoor", sum := "1dd378f23c5a0d2fceab464aefa2c64379eebe7fd2362300f5319780c6cc2bc8", func := "loop.example/importhouse/laws.FnFindCached", spec := "fnFindCached", inPlace := ["internal/bytealg.CountString", "internal/bytealg.IndexByteString", "internal/bytealg.IndexString"], unfollowed := true, recurses := true, named := ["unicode/utf8.first", "unicode/utf8.acceptRanges", "internal/bytealg.MaxLen"], apart := false, laid := [("unicode/utf8.acceptRanges", laid_unicode_utf8_acceptRanges), ("unicode/utf8.first", laid_unicode_utf8_first)], narrowed := true }
def FnFindCachedUptoSaid : Prop := fnFindCachedUptoRow.holds Tryz.pinned (OpenSpec.upto fnFindCachedSpec)

/-- 'laws.FnFindCachedTwice', WHERE WHAT IT READS IS OF BULK AT MOST 1048576: true; the input reads as it did. -/
def fnFindCachedTwiceUptoRow : OpenClaim := { program := "ytdoidiipacdbpaagreatdoor", sum := "1dd378f23c5a0d2fceab464aefa2c64379eebe7fd2362300f5319780c6cc2bc8", func := "loop.example/importhouse/laws.FnFindCachedTwice", spec := "fnFindCachedTwice", inPlace := ["internal/bytealg.CountString", "internal/bytealg.IndexByteString", "internal/bytealg.IndexString"], unfollowed := true, recurses := true, named := ["unicode/utf8.first", "unicode/utf8.acceptRanges", "internal/bytealg.MaxLen"], apart := false, laid := [("unicode/utf8.acceptRanges", laid_unicode_utf8_acceptRanges), ("unicode/utf8.first", laid_unicode_utf8_first)], narrowed := true }
def FnFindCachedTwiceUptoSaid : Prop := fnFindCachedTwiceUptoRow.holds Tryz.pinned (OpenSpec.upto fnFindCachedTwiceSpec)

/-- 'laws.FnFindCachedOld', WHERE WHAT IT READS IS OF BULK AT MOST 1048576: true; the input reads as it did. -/
def fnFindCachedOldUptoRow : OpenClaim := { program := "ytdoidiipacdbpaagreatdoor", sum := "1dd378f23c5a0d2fceab464aefa2c64379eebe7fd2362300f5319780c6cc2bc8", func := "loop.example/importhouse/laws.FnFindCachedOld", spec := "fnFindCachedOld", inPlace := ["internal/bytealg.CountString", "internal/bytealg.IndexByteString", "internal/bytealg.IndexString"], unfollowed := true, recurses := true, named := ["unicode/utf8.first", "unicode/utf8.acceptRanges", "internal/bytealg.MaxLen"], apart := false, laid := [("unicode/utf8.acceptRanges", laid_unicode_utf8_acceptRanges), ("unicode/utf8.first", laid_unicode_utf8_first)], narrowed := true }
def FnFindCachedOldUptoSaid : Prop := fnFindCachedOldUptoRow.holds Tryz.pinned (OpenSpec.upto fnFindCachedOldSpec)

/-- 'laws.FnStaleDirs', WHERE WHAT IT READS IS OF BULK AT MOST 1048576: true; the input reads as it did. -/
def fnStaleDirsUptoRow : OpenClaim := { program := "ytdoidiipacdbpaagreatdoor", sum := "1dd378f23c5a0d2fceab464aefa2c64379eebe7fd2362300f5319780c6cc2bc8", func := "loop.example/importhouse/laws.FnStaleDirs", spec := "fnStaleDirs", inPlace := ["internal/bytealg.CountString", "internal/bytealg.IndexByteString", "internal/bytealg.IndexString"], unfollowed := true, recurses := true, named := ["unicode/utf8.first", "unicode/utf8.acceptRanges", "internal/bytealg.MaxLen"], apart := false, laid := [("unicode/utf8.acceptRanges", laid_unicode_utf8_acceptRanges), ("unicode/utf8.first", laid_unicode_utf8_first)], narrowed := true }
def FnStaleDirsUptoSaid : Prop := fnStaleDirsUptoRow.holds Tryz.pinned (OpenSpec.upto fnStaleDirsSpec)

end Rows
end Go.Proofs.YtdoidiipacdbpaaGreatDoor
