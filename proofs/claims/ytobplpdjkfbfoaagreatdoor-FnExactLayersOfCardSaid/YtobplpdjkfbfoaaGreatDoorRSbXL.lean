/-
  Closing facts of a row, one theorem each.
-/
import Derived.Test.YtobplpdjkfbfoaaGreatDoorRB
import Derived.Test.YtobplpdjkfbfoaaGreatDoorCards
import Derived.Test.YtobplpdjkfbfoaaGreatDoorTie
import Derived.ProofKit
import Derived.LaidMore
import Derived.Lay
import Derived.OpenShut
import Derived.Stop.Joined
import Derived.SevenTiedAt
namespace Go.Proofs.YtobplpdjkfbfoaaGreatDoor
open Go.ChangeShapes Go.WideShapes Go.ChangeAt Go.RowKit
theorem jf12RowXL : ((Rows.fnExactLayersOfRow.named == Tryz.prog.varsNamed 4)) = true := by kernel_rfl
theorem jf13RowXL : ((Rows.fnExactLayersOfRow.maps == (Tryz.f4.params.toList ++ Rows.fnExactLayersOfSpec.plain.varTypes Tryz.prog).any (Tryz.prog.mapsRec ·))) = true := by kernel_rfl
theorem jf14RowXL : ((Rows.fnExactLayersOfRow.ifaces == (Tryz.f4.params.toList ++ Rows.fnExactLayersOfSpec.plain.varTypes Tryz.prog).any (Tryz.prog.ifacesRec ·))) = true := by kernel_rfl
theorem jf15RowXL : ((Rows.fnExactLayersOfRow.mapsOut == Tryz.prog.mapsAmong Tryz.f4.resultTypes.toList)) = true := by kernel_rfl
theorem jf16RowXL : ((Rows.fnExactLayersOfRow.loops == (Tryz.f4.params.toList ++ Rows.fnExactLayersOfSpec.plain.varTypes Tryz.prog).any (Tryz.prog.loopsFrom ·))) = true := by kernel_rfl
theorem jf17RowXL : ((Rows.fnExactLayersOfRow.wideKeys == (Tryz.f4.params.toList ++ Rows.fnExactLayersOfSpec.plain.varTypes Tryz.prog ++ Tryz.f4.resultTypes.toList).any (Tryz.prog.wideKeysFrom ·))) = true := by kernel_rfl
theorem jf18RowXL : (Rows.fnExactLayersOfSpec.vars.all (Tryz.prog.varReadable ·)) = true := by kernel_rfl
theorem jf19RowXL : (Tryz.f4.resultTypes.all (fun t => Tryz.prog.readableRec t && decide (t < Tryz.prog.types.size))) = true := by kernel_rfl
theorem jf20RowXL : ((Rows.fnExactLayersOfRow.ifacesOut == Tryz.f4.resultTypes.toList.any (Tryz.prog.ifacesRec ·))) = true := by kernel_rfl
theorem jf21RowXL : ((Rows.fnExactLayersOfRow.loopsOut == Tryz.f4.resultTypes.toList.any (Tryz.prog.loopsFrom ·))) = true := by kernel_rfl
theorem jf22RowXL : ((Rows.fnExactLayersOfRow.plainKeys == Tryz.prog.plainKeys)) = true := by kernel_rfl
theorem jf23RowXL : (Rows.fnExactLayersOfRow.shortTexts.isNone) = true := by kernel_rfl
theorem jf24RowXL : (Tryz.prog.stopsHeard) = true := by kernel_rfl
theorem jf25RowXL : (Tryz.prog.mayEnter) = true := by kernel_rfl
theorem jf26RowXL : ((Rows.fnExactLayersOfRow.lifted == Tryz.prog.liftsFinal)) = true := by kernel_rfl
theorem jf27RowXL : ((Tryz.prog.make == some Rows.fnExactLayersOfRow.make)) = true := by kernel_rfl
theorem jf29RowXL : ((Rows.fnExactLayersOfRow.pinned == Rows.fnExactLayersOfRow.pinnedBy)) = true := by kernel_rfl
theorem jf30RowXL : ((Rows.fnExactLayersOfRow.veiled == (Tryz.f4.params.toList ++ Rows.fnExactLayersOfSpec.plain.varTypes Tryz.prog ++ Tryz.f4.resultTypes.toList).any (Tryz.prog.veiledRec ·))) = true := by kernel_rfl
theorem jf31RowXL : (Rows.fnExactLayersOfRow.veiledFits Tryz.prog Tryz.f4.params.toList (Tryz.f4.params.toList ++ Rows.fnExactLayersOfSpec.plain.varTypes Tryz.prog ++ Tryz.f4.resultTypes.toList)) = true := by kernel_rfl
end Go.Proofs.YtobplpdjkfbfoaaGreatDoor
