/-
  Closing facts of a row, one theorem each.
-/
import Derived.Test.YtobplpdjkfbfoaaGreatDoorRB
import Derived.Test.YtobplpdjkfbfoaaGreatDoorCards
import Derived.Test.YtobplpdjkfbfoaaGreatDoorTie
import Derived.ProofKit
import Derived.LaidMore
import Derived.Lay
import Derived.OpenShut
import Derived.Stop.Joined
import Derived.SevenTiedAt
namespace Go.Proofs.YtobplpdjkfbfoaaGreatDoor
open Go.ChangeShapes Go.WideShapes Go.ChangeAt Go.RowKit
theorem jf12RowLO : ((Rows.fnLayersOfRow.named == Tryz.prog.varsNamed 3)) = true := by kernel_rfl
theorem jf13RowLO : ((Rows.fnLayersOfRow.maps == (Tryz.f3.params.toList ++ Rows.fnLayersOfSpec.plain.varTypes Tryz.prog).any (Tryz.prog.mapsRec ·))) = true := by kernel_rfl
theorem jf14RowLO : ((Rows.fnLayersOfRow.ifaces == (Tryz.f3.params.toList ++ Rows.fnLayersOfSpec.plain.varTypes Tryz.prog).any (Tryz.prog.ifacesRec ·))) = true := by kernel_rfl
theorem jf15RowLO : ((Rows.fnLayersOfRow.mapsOut == Tryz.prog.mapsAmong Tryz.f3.resultTypes.toList)) = true := by kernel_rfl
theorem jf16RowLO : ((Rows.fnLayersOfRow.loops == (Tryz.f3.params.toList ++ Rows.fnLayersOfSpec.plain.varTypes Tryz.prog).any (Tryz.prog.loopsFrom ·))) = true := by kernel_rfl
theorem jf17RowLO : ((Rows.fnLayersOfRow.wideKeys == (Tryz.f3.params.toList ++ Rows.fnLayersOfSpec.plain.varTypes Tryz.prog ++ Tryz.f3.resultTypes.toList).any (Tryz.prog.wideKeysFrom ·))) = true := by kernel_rfl
theorem jf18RowLO : (Rows.fnLayersOfSpec.vars.all (Tryz.prog.varReadable ·)) = true := by kernel_rfl
theorem jf19RowLO : (Tryz.f3.resultTypes.all (fun t => Tryz.prog.readableRec t && decide (t < Tryz.prog.types.size))) = true := by kernel_rfl
theorem jf20RowLO : ((Rows.fnLayersOfRow.ifacesOut == Tryz.f3.resultTypes.toList.any (Tryz.prog.ifacesRec ·))) = true := by kernel_rfl
theorem jf21RowLO : ((Rows.fnLayersOfRow.loopsOut == Tryz.f3.resultTypes.toList.any (Tryz.prog.loopsFrom ·))) = true := by kernel_rfl
theorem jf22RowLO : ((Rows.fnLayersOfRow.plainKeys == Tryz.prog.plainKeys)) = true := by kernel_rfl
theorem jf23RowLO : (Rows.fnLayersOfRow.shortTexts.isNone) = true := by kernel_rfl
theorem jf24RowLO : (Tryz.prog.stopsHeard) = true := by kernel_rfl
theorem jf25RowLO : (Tryz.prog.mayEnter) = true := by kernel_rfl
theorem jf26RowLO : ((Rows.fnLayersOfRow.lifted == Tryz.prog.liftsFinal)) = true := by kernel_rfl
theorem jf27RowLO : ((Tryz.prog.make == some Rows.fnLayersOfRow.make)) = true := by kernel_rfl
theorem jf29RowLO : ((Rows.fnLayersOfRow.pinned == Rows.fnLayersOfRow.pinnedBy)) = true := by kernel_rfl
theorem jf30RowLO : ((Rows.fnLayersOfRow.veiled == (Tryz.f3.params.toList ++ Rows.fnLayersOfSpec.plain.varTypes Tryz.prog ++ Tryz.f3.resultTypes.toList).any (Tryz.prog.veiledRec ·))) = true := by kernel_rfl
theorem jf31RowLO : (Rows.fnLayersOfRow.veiledFits Tryz.prog Tryz.f3.params.toList (Tryz.f3.params.toList ++ Rows.fnLayersOfSpec.plain.varTypes Tryz.prog ++ Tryz.f3.resultTypes.toList)) = true := by kernel_rfl
end Go.Proofs.YtobplpdjkfbfoaaGreatDoor
