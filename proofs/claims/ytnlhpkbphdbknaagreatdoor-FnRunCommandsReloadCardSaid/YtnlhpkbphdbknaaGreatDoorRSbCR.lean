/-
  Closing facts of a row, one theorem each.
-/
import Derived.Test.YtnlhpkbphdbknaaGreatDoorRB
import Derived.Test.YtnlhpkbphdbknaaGreatDoorCards
import Derived.Test.YtnlhpkbphdbknaaGreatDoorTie
import Derived.ProofKit
import Derived.LaidMore
import Derived.Lay
import Derived.OpenShut
import Derived.Stop.Joined
import Derived.SevenTiedAt
namespace Go.Proofs.YtnlhpkbphdbknaaGreatDoor
open Go.ChangeShapes Go.WideShapes Go.ChangeAt Go.RowKit
theorem jf12RowCR : ((Rows.fnRunCommandsReloadRow.named == Tryz.prog.varsNamed 8)) = true := by kernel_rfl
theorem jf13RowCR : ((Rows.fnRunCommandsReloadRow.maps == (Tryz.f8.params.toList ++ Rows.fnRunCommandsReloadSpec.plain.varTypes Tryz.prog).any (Tryz.prog.mapsRec ·))) = true := by kernel_rfl
theorem jf14RowCR : ((Rows.fnRunCommandsReloadRow.ifaces == (Tryz.f8.params.toList ++ Rows.fnRunCommandsReloadSpec.plain.varTypes Tryz.prog).any (Tryz.prog.ifacesRec ·))) = true := by kernel_rfl
theorem jf15RowCR : ((Rows.fnRunCommandsReloadRow.mapsOut == Tryz.prog.mapsAmong Tryz.f8.resultTypes.toList)) = true := by kernel_rfl
theorem jf16RowCR : ((Rows.fnRunCommandsReloadRow.loops == (Tryz.f8.params.toList ++ Rows.fnRunCommandsReloadSpec.plain.varTypes Tryz.prog).any (Tryz.prog.loopsFrom ·))) = true := by kernel_rfl
theorem jf17RowCR : ((Rows.fnRunCommandsReloadRow.wideKeys == (Tryz.f8.params.toList ++ Rows.fnRunCommandsReloadSpec.plain.varTypes Tryz.prog ++ Tryz.f8.resultTypes.toList).any (Tryz.prog.wideKeysFrom ·))) = true := by kernel_rfl
theorem jf18RowCR : (Rows.fnRunCommandsReloadSpec.vars.all (Tryz.prog.varReadable ·)) = true := by kernel_rfl
theorem jf19RowCR : (Tryz.f8.resultTypes.all (fun t => Tryz.prog.readableRec t && decide (t < Tryz.prog.types.size))) = true := by kernel_rfl
theorem jf20RowCR : ((Rows.fnRunCommandsReloadRow.ifacesOut == Tryz.f8.resultTypes.toList.any (Tryz.prog.ifacesRec ·))) = true := by kernel_rfl
theorem jf21RowCR : ((Rows.fnRunCommandsReloadRow.loopsOut == Tryz.f8.resultTypes.toList.any (Tryz.prog.loopsFrom ·))) = true := by kernel_rfl
theorem jf22RowCR : ((Rows.fnRunCommandsReloadRow.plainKeys == Tryz.prog.plainKeys)) = true := by kernel_rfl
theorem jf23RowCR : (Rows.fnRunCommandsReloadRow.shortTexts.isNone) = true := by kernel_rfl
theorem jf24RowCR : (Tryz.prog.stopsHeard) = true := by kernel_rfl
theorem jf25RowCR : (Tryz.prog.mayEnter) = true := by kernel_rfl
theorem jf26RowCR : ((Rows.fnRunCommandsReloadRow.lifted == Tryz.prog.liftsFinal)) = true := by kernel_rfl
theorem jf27RowCR : ((Tryz.prog.make == some Rows.fnRunCommandsReloadRow.make)) = true := by kernel_rfl
theorem jf29RowCR : ((Rows.fnRunCommandsReloadRow.pinned == Rows.fnRunCommandsReloadRow.pinnedBy)) = true := by kernel_rfl
theorem jf30RowCR : ((Rows.fnRunCommandsReloadRow.veiled == (Tryz.f8.params.toList ++ Rows.fnRunCommandsReloadSpec.plain.varTypes Tryz.prog ++ Tryz.f8.resultTypes.toList).any (Tryz.prog.veiledRec ·))) = true := by kernel_rfl
theorem jf31RowCR : (Rows.fnRunCommandsReloadRow.veiledFits Tryz.prog Tryz.f8.params.toList (Tryz.f8.params.toList ++ Rows.fnRunCommandsReloadSpec.plain.varTypes Tryz.prog ++ Tryz.f8.resultTypes.toList)) = true := by kernel_rfl
end Go.Proofs.YtnlhpkbphdbknaaGreatDoor
