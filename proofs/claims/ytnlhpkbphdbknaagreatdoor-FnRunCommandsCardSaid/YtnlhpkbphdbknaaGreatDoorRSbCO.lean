/-
  Closing facts of a row, one theorem each.
-/
import Derived.Test.YtnlhpkbphdbknaaGreatDoorRB
import Derived.Test.YtnlhpkbphdbknaaGreatDoorCards
import Derived.Test.YtnlhpkbphdbknaaGreatDoorTie
import Derived.ProofKit
import Derived.LaidMore
import Derived.Lay
import Derived.OpenShut
import Derived.Stop.Joined
import Derived.SevenTiedAt
namespace Go.Proofs.YtnlhpkbphdbknaaGreatDoor
open Go.ChangeShapes Go.WideShapes Go.ChangeAt Go.RowKit
theorem jf12RowCO : ((Rows.fnRunCommandsRow.named == Tryz.prog.varsNamed 3)) = true := by kernel_rfl
theorem jf13RowCO : ((Rows.fnRunCommandsRow.maps == (Tryz.f3.params.toList ++ Rows.fnRunCommandsSpec.plain.varTypes Tryz.prog).any (Tryz.prog.mapsRec ·))) = true := by kernel_rfl
theorem jf14RowCO : ((Rows.fnRunCommandsRow.ifaces == (Tryz.f3.params.toList ++ Rows.fnRunCommandsSpec.plain.varTypes Tryz.prog).any (Tryz.prog.ifacesRec ·))) = true := by kernel_rfl
theorem jf15RowCO : ((Rows.fnRunCommandsRow.mapsOut == Tryz.prog.mapsAmong Tryz.f3.resultTypes.toList)) = true := by kernel_rfl
theorem jf16RowCO : ((Rows.fnRunCommandsRow.loops == (Tryz.f3.params.toList ++ Rows.fnRunCommandsSpec.plain.varTypes Tryz.prog).any (Tryz.prog.loopsFrom ·))) = true := by kernel_rfl
theorem jf17RowCO : ((Rows.fnRunCommandsRow.wideKeys == (Tryz.f3.params.toList ++ Rows.fnRunCommandsSpec.plain.varTypes Tryz.prog ++ Tryz.f3.resultTypes.toList).any (Tryz.prog.wideKeysFrom ·))) = true := by kernel_rfl
theorem jf18RowCO : (Rows.fnRunCommandsSpec.vars.all (Tryz.prog.varReadable ·)) = true := by kernel_rfl
theorem jf19RowCO : (Tryz.f3.resultTypes.all (fun t => Tryz.prog.readableRec t && decide (t < Tryz.prog.types.size))) = true := by kernel_rfl
theorem jf20RowCO : ((Rows.fnRunCommandsRow.ifacesOut == Tryz.f3.resultTypes.toList.any (Tryz.prog.ifacesRec ·))) = true := by kernel_rfl
theorem jf21RowCO : ((Rows.fnRunCommandsRow.loopsOut == Tryz.f3.resultTypes.toList.any (Tryz.prog.loopsFrom ·))) = true := by kernel_rfl
theorem jf22RowCO : ((Rows.fnRunCommandsRow.plainKeys == Tryz.prog.plainKeys)) = true := by kernel_rfl
theorem jf23RowCO : (Rows.fnRunCommandsRow.shortTexts.isNone) = true := by kernel_rfl
theorem jf24RowCO : (Tryz.prog.stopsHeard) = true := by kernel_rfl
theorem jf25RowCO : (Tryz.prog.mayEnter) = true := by kernel_rfl
theorem jf26RowCO : ((Rows.fnRunCommandsRow.lifted == Tryz.prog.liftsFinal)) = true := by kernel_rfl
theorem jf27RowCO : ((Tryz.prog.make == some Rows.fnRunCommandsRow.make)) = true := by kernel_rfl
theorem jf29RowCO : ((Rows.fnRunCommandsRow.pinned == Rows.fnRunCommandsRow.pinnedBy)) = true := by kernel_rfl
theorem jf30RowCO : ((Rows.fnRunCommandsRow.veiled == (Tryz.f3.params.toList ++ Rows.fnRunCommandsSpec.plain.varTypes Tryz.prog ++ Tryz.f3.resultTypes.toList).any (Tryz.prog.veiledRec ·))) = true := by kernel_rfl
theorem jf31RowCO : (Rows.fnRunCommandsRow.veiledFits Tryz.prog Tryz.f3.params.toList (Tryz.f3.params.toList ++ Rows.fnRunCommandsSpec.plain.varTypes Tryz.prog ++ Tryz.f3.resultTypes.toList)) = true := by kernel_rfl
end Go.Proofs.YtnlhpkbphdbknaaGreatDoor
