/-
  Closing facts of a row, one theorem each.
-/
import Derived.Test.YtdoidiipacdbpaaGreatDoorRB
import Derived.Test.YtdoidiipacdbpaaGreatDoorCards
import Derived.Test.YtdoidiipacdbpaaGreatDoorTie
import Derived.ProofKit
import Derived.LaidMore
import Derived.Lay
import Derived.OpenShut
import Derived.Stop.Joined
import Derived.SevenTiedAt
namespace Go.Proofs.YtdoidiipacdbpaaGreatDoor
open Go.ChangeShapes Go.WideShapes Go.ChangeAt Go.RowKit
theorem jf12RowF1 : ((Rows.fnFindCachedRow.named == Tryz.prog.varsNamed 4)) = true := by kernel_rfl
theorem jf13RowF1 : ((Rows.fnFindCachedRow.maps == (Tryz.f4.params.toList ++ Rows.fnFindCachedSpec.plain.varTypes Tryz.prog).any (Tryz.prog.mapsRec ·))) = true := by kernel_rfl
theorem jf14RowF1 : ((Rows.fnFindCachedRow.ifaces == (Tryz.f4.params.toList ++ Rows.fnFindCachedSpec.plain.varTypes Tryz.prog).any (Tryz.prog.ifacesRec ·))) = true := by kernel_rfl
theorem jf15RowF1 : ((Rows.fnFindCachedRow.mapsOut == Tryz.prog.mapsAmong Tryz.f4.resultTypes.toList)) = true := by kernel_rfl
theorem jf16RowF1 : ((Rows.fnFindCachedRow.loops == (Tryz.f4.params.toList ++ Rows.fnFindCachedSpec.plain.varTypes Tryz.prog).any (Tryz.prog.loopsFrom ·))) = true := by kernel_rfl
theorem jf17RowF1 : ((Rows.fnFindCachedRow.wideKeys == (Tryz.f4.params.toList ++ Rows.fnFindCachedSpec.plain.varTypes Tryz.prog ++ Tryz.f4.resultTypes.toList).any (Tryz.prog.wideKeysFrom ·))) = true := by kernel_rfl
theorem jf18RowF1 : (Rows.fnFindCachedSpec.vars.all (Tryz.prog.varReadable ·)) = true := by kernel_rfl
theorem jf19RowF1 : (Tryz.f4.resultTypes.all (fun t => Tryz.prog.readableRec t && decide (t < Tryz.prog.types.size))) = true := by kernel_rfl
theorem jf20RowF1 : ((Rows.fnFindCachedRow.ifacesOut == Tryz.f4.resultTypes.toList.any (Tryz.prog.ifacesRec ·))) = true := by kernel_rfl
theorem jf21RowF1 : ((Rows.fnFindCachedRow.loopsOut == Tryz.f4.resultTypes.toList.any (Tryz.prog.loopsFrom ·))) = true := by kernel_rfl
theorem jf22RowF1 : ((Rows.fnFindCachedRow.plainKeys == Tryz.prog.plainKeys)) = true := by kernel_rfl
theorem jf23RowF1 : (Rows.fnFindCachedRow.shortTexts.isNone) = true := by kernel_rfl
theorem jf24RowF1 : (Tryz.prog.stopsHeard) = true := by kernel_rfl
theorem jf25RowF1 : (Tryz.prog.mayEnter) = true := by kernel_rfl
theorem jf26RowF1 : ((Rows.fnFindCachedRow.lifted == Tryz.prog.liftsFinal)) = true := by kernel_rfl
theorem jf27RowF1 : ((Tryz.prog.make == some Rows.fnFindCachedRow.make)) = true := by kernel_rfl
theorem jf29RowF1 : ((Rows.fnFindCachedRow.pinned == Rows.fnFindCachedRow.pinnedBy)) = true := by kernel_rfl
theorem jf30RowF1 : ((Rows.fnFindCachedRow.veiled == (Tryz.f4.params.toList ++ Rows.fnFindCachedSpec.plain.varTypes Tryz.prog ++ Tryz.f4.resultTypes.toList).any (Tryz.prog.veiledRec ·))) = true := by kernel_rfl
theorem jf31RowF1 : (Rows.fnFindCachedRow.veiledFits Tryz.prog Tryz.f4.params.toList (Tryz.f4.params.toList ++ Rows.fnFindCachedSpec.plain.varTypes Tryz.prog ++ Tryz.f4.resultTypes.toList)) = true := by kernel_rfl
end Go.Proofs.YtdoidiipacdbpaaGreatDoor
