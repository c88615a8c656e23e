/-
  Closing facts of a row, one theorem each.
-/
import Derived.Test.YtdoidiipacdbpaaGreatDoorRB
import Derived.Test.YtdoidiipacdbpaaGreatDoorCards
import Derived.Test.YtdoidiipacdbpaaGreatDoorTie
import Derived.ProofKit
import Derived.LaidMore
import Derived.Lay
import Derived.OpenShut
import Derived.Stop.Joined
import Derived.SevenTiedAt
namespace Go.Proofs.YtdoidiipacdbpaaGreatDoor
open Go.ChangeShapes Go.WideShapes Go.ChangeAt Go.RowKit
theorem jf12RowF2 : ((Rows.fnFindCachedTwiceRow.named == Tryz.prog.varsNamed 5)) = true := by kernel_rfl
theorem jf13RowF2 : ((Rows.fnFindCachedTwiceRow.maps == (Tryz.f5.params.toList ++ Rows.fnFindCachedTwiceSpec.plain.varTypes Tryz.prog).any (Tryz.prog.mapsRec ·))) = true := by kernel_rfl
theorem jf14RowF2 : ((Rows.fnFindCachedTwiceRow.ifaces == (Tryz.f5.params.toList ++ Rows.fnFindCachedTwiceSpec.plain.varTypes Tryz.prog).any (Tryz.prog.ifacesRec ·))) = true := by kernel_rfl
theorem jf15RowF2 : ((Rows.fnFindCachedTwiceRow.mapsOut == Tryz.prog.mapsAmong Tryz.f5.resultTypes.toList)) = true := by kernel_rfl
theorem jf16RowF2 : ((Rows.fnFindCachedTwiceRow.loops == (Tryz.f5.params.toList ++ Rows.fnFindCachedTwiceSpec.plain.varTypes Tryz.prog).any (Tryz.prog.loopsFrom ·))) = true := by kernel_rfl
theorem jf17RowF2 : ((Rows.fnFindCachedTwiceRow.wideKeys == (Tryz.f5.params.toList ++ Rows.fnFindCachedTwiceSpec.plain.varTypes Tryz.prog ++ Tryz.f5.resultTypes.toList).any (Tryz.prog.wideKeysFrom ·))) = true := by kernel_rfl
theorem jf18RowF2 : (Rows.fnFindCachedTwiceSpec.vars.all (Tryz.prog.varReadable ·)) = true := by kernel_rfl
theorem jf19RowF2 : (Tryz.f5.resultTypes.all (fun t => Tryz.prog.readableRec t && decide (t < Tryz.prog.types.size))) = true := by kernel_rfl
theorem jf20RowF2 : ((Rows.fnFindCachedTwiceRow.ifacesOut == Tryz.f5.resultTypes.toList.any (Tryz.prog.ifacesRec ·))) = true := by kernel_rfl
theorem jf21RowF2 : ((Rows.fnFindCachedTwiceRow.loopsOut == Tryz.f5.resultTypes.toList.any (Tryz.prog.loopsFrom ·))) = true := by kernel_rfl
theorem jf22RowF2 : ((Rows.fnFindCachedTwiceRow.plainKeys == Tryz.prog.plainKeys)) = true := by kernel_rfl
theorem jf23RowF2 : (Rows.fnFindCachedTwiceRow.shortTexts.isNone) = true := by kernel_rfl
theorem jf24RowF2 : (Tryz.prog.stopsHeard) = true := by kernel_rfl
theorem jf25RowF2 : (Tryz.prog.mayEnter) = true := by kernel_rfl
theorem jf26RowF2 : ((Rows.fnFindCachedTwiceRow.lifted == Tryz.prog.liftsFinal)) = true := by kernel_rfl
theorem jf27RowF2 : ((Tryz.prog.make == some Rows.fnFindCachedTwiceRow.make)) = true := by kernel_rfl
theorem jf29RowF2 : ((Rows.fnFindCachedTwiceRow.pinned == Rows.fnFindCachedTwiceRow.pinnedBy)) = true := by kernel_rfl
theorem jf30RowF2 : ((Rows.fnFindCachedTwiceRow.veiled == (Tryz.f5.params.toList ++ Rows.fnFindCachedTwiceSpec.plain.varTypes Tryz.prog ++ Tryz.f5.resultTypes.toList).any (Tryz.prog.veiledRec ·))) = true := by kernel_rfl
theorem jf31RowF2 : (Rows.fnFindCachedTwiceRow.veiledFits Tryz.prog Tryz.f5.params.toList (Tryz.f5.params.toList ++ Rows.fnFindCachedTwiceSpec.plain.varTypes Tryz.prog ++ Tryz.f5.resultTypes.toList)) = true := by kernel_rfl
end Go.Proofs.YtdoidiipacdbpaaGreatDoor
