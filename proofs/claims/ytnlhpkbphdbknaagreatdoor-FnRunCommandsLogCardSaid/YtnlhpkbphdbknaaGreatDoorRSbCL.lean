/-
  Closing facts of a row, one theorem each.
-/
import Derived.Test.YtnlhpkbphdbknaaGreatDoorRB
import Derived.Test.YtnlhpkbphdbknaaGreatDoorCards
import Derived.Test.YtnlhpkbphdbknaaGreatDoorTie
import Derived.ProofKit
import Derived.LaidMore
import Derived.Lay
import Derived.OpenShut
import Derived.Stop.Joined
import Derived.SevenTiedAt
namespace Go.Proofs.YtnlhpkbphdbknaaGreatDoor
open Go.ChangeShapes Go.WideShapes Go.ChangeAt Go.RowKit
theorem jf12RowCL : ((Rows.fnRunCommandsLogRow.named == Tryz.prog.varsNamed 5)) = true := by kernel_rfl
theorem jf13RowCL : ((Rows.fnRunCommandsLogRow.maps == (Tryz.f5.params.toList ++ Rows.fnRunCommandsLogSpec.plain.varTypes Tryz.prog).any (Tryz.prog.mapsRec ·))) = true := by kernel_rfl
theorem jf14RowCL : ((Rows.fnRunCommandsLogRow.ifaces == (Tryz.f5.params.toList ++ Rows.fnRunCommandsLogSpec.plain.varTypes Tryz.prog).any (Tryz.prog.ifacesRec ·))) = true := by kernel_rfl
theorem jf15RowCL : ((Rows.fnRunCommandsLogRow.mapsOut == Tryz.prog.mapsAmong Tryz.f5.resultTypes.toList)) = true := by kernel_rfl
theorem jf16RowCL : ((Rows.fnRunCommandsLogRow.loops == (Tryz.f5.params.toList ++ Rows.fnRunCommandsLogSpec.plain.varTypes Tryz.prog).any (Tryz.prog.loopsFrom ·))) = true := by kernel_rfl
theorem jf17RowCL : ((Rows.fnRunCommandsLogRow.wideKeys == (Tryz.f5.params.toList ++ Rows.fnRunCommandsLogSpec.plain.varTypes Tryz.prog ++ Tryz.f5.resultTypes.toList).any (Tryz.prog.wideKeysFrom ·))) = true := by kernel_rfl
theorem jf18RowCL : (Rows.fnRunCommandsLogSpec.vars.all (Tryz.prog.varReadable ·)) = true := by kernel_rfl
theorem jf19RowCL : (Tryz.f5.resultTypes.all (fun t => Tryz.prog.readableRec t && decide (t < Tryz.prog.types.size))) = true := by kernel_rfl
theorem jf20RowCL : ((Rows.fnRunCommandsLogRow.ifacesOut == Tryz.f5.resultTypes.toList.any (Tryz.prog.ifacesRec ·))) = true := by kernel_rfl
theorem jf21RowCL : ((Rows.fnRunCommandsLogRow.loopsOut == Tryz.f5.resultTypes.toList.any (Tryz.prog.loopsFrom ·))) = true := by kernel_rfl
theorem jf22RowCL : ((Rows.fnRunCommandsLogRow.plainKeys == Tryz.prog.plainKeys)) = true := by kernel_rfl
theorem jf23RowCL : (Rows.fnRunCommandsLogRow.shortTexts.isNone) = true := by kernel_rfl
theorem jf24RowCL : (Tryz.prog.stopsHeard) = true := by kernel_rfl
theorem jf25RowCL : (Tryz.prog.mayEnter) = true := by kernel_rfl
theorem jf26RowCL : ((Rows.fnRunCommandsLogRow.lifted == Tryz.prog.liftsFinal)) = true := by kernel_rfl
theorem jf27RowCL : ((Tryz.prog.make == some Rows.fnRunCommandsLogRow.make)) = true := by kernel_rfl
theorem jf29RowCL : ((Rows.fnRunCommandsLogRow.pinned == Rows.fnRunCommandsLogRow.pinnedBy)) = true := by kernel_rfl
theorem jf30RowCL : ((Rows.fnRunCommandsLogRow.veiled == (Tryz.f5.params.toList ++ Rows.fnRunCommandsLogSpec.plain.varTypes Tryz.prog ++ Tryz.f5.resultTypes.toList).any (Tryz.prog.veiledRec ·))) = true := by kernel_rfl
theorem jf31RowCL : (Rows.fnRunCommandsLogRow.veiledFits Tryz.prog Tryz.f5.params.toList (Tryz.f5.params.toList ++ Rows.fnRunCommandsLogSpec.plain.varTypes Tryz.prog ++ Tryz.f5.resultTypes.toList)) = true := by kernel_rfl
end Go.Proofs.YtnlhpkbphdbknaaGreatDoor
