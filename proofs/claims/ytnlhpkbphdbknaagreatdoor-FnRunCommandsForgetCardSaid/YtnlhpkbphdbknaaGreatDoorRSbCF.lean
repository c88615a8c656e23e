/-
  Closing facts of a row, one theorem each.
-/
import Derived.Test.YtnlhpkbphdbknaaGreatDoorRB
import Derived.Test.YtnlhpkbphdbknaaGreatDoorCards
import Derived.Test.YtnlhpkbphdbknaaGreatDoorTie
import Derived.ProofKit
import Derived.LaidMore
import Derived.Lay
import Derived.OpenShut
import Derived.Stop.Joined
import Derived.SevenTiedAt
namespace Go.Proofs.YtnlhpkbphdbknaaGreatDoor
open Go.ChangeShapes Go.WideShapes Go.ChangeAt Go.RowKit
theorem jf12RowCF : ((Rows.fnRunCommandsForgetRow.named == Tryz.prog.varsNamed 7)) = true := by kernel_rfl
theorem jf13RowCF : ((Rows.fnRunCommandsForgetRow.maps == (Tryz.f7.params.toList ++ Rows.fnRunCommandsForgetSpec.plain.varTypes Tryz.prog).any (Tryz.prog.mapsRec ·))) = true := by kernel_rfl
theorem jf14RowCF : ((Rows.fnRunCommandsForgetRow.ifaces == (Tryz.f7.params.toList ++ Rows.fnRunCommandsForgetSpec.plain.varTypes Tryz.prog).any (Tryz.prog.ifacesRec ·))) = true := by kernel_rfl
theorem jf15RowCF : ((Rows.fnRunCommandsForgetRow.mapsOut == Tryz.prog.mapsAmong Tryz.f7.resultTypes.toList)) = true := by kernel_rfl
theorem jf16RowCF : ((Rows.fnRunCommandsForgetRow.loops == (Tryz.f7.params.toList ++ Rows.fnRunCommandsForgetSpec.plain.varTypes Tryz.prog).any (Tryz.prog.loopsFrom ·))) = true := by kernel_rfl
theorem jf17RowCF : ((Rows.fnRunCommandsForgetRow.wideKeys == (Tryz.f7.params.toList ++ Rows.fnRunCommandsForgetSpec.plain.varTypes Tryz.prog ++ Tryz.f7.resultTypes.toList).any (Tryz.prog.wideKeysFrom ·))) = true := by kernel_rfl
theorem jf18RowCF : (Rows.fnRunCommandsForgetSpec.vars.all (Tryz.prog.varReadable ·)) = true := by kernel_rfl
theorem jf19RowCF : (Tryz.f7.resultTypes.all (fun t => Tryz.prog.readableRec t && decide (t < Tryz.prog.types.size))) = true := by kernel_rfl
theorem jf20RowCF : ((Rows.fnRunCommandsForgetRow.ifacesOut == Tryz.f7.resultTypes.toList.any (Tryz.prog.ifacesRec ·))) = true := by kernel_rfl
theorem jf21RowCF : ((Rows.fnRunCommandsForgetRow.loopsOut == Tryz.f7.resultTypes.toList.any (Tryz.prog.loopsFrom ·))) = true := by kernel_rfl
theorem jf22RowCF : ((Rows.fnRunCommandsForgetRow.plainKeys == Tryz.prog.plainKeys)) = true := by kernel_rfl
theorem jf23RowCF : (Rows.fnRunCommandsForgetRow.shortTexts.isNone) = true := by kernel_rfl
theorem jf24RowCF : (Tryz.prog.stopsHeard) = true := by kernel_rfl
theorem jf25RowCF : (Tryz.prog.mayEnter) = true := by kernel_rfl
theorem jf26RowCF : ((Rows.fnRunCommandsForgetRow.lifted == Tryz.prog.liftsFinal)) = true := by kernel_rfl
theorem jf27RowCF : ((Tryz.prog.make == some Rows.fnRunCommandsForgetRow.make)) = true := by kernel_rfl
theorem jf29RowCF : ((Rows.fnRunCommandsForgetRow.pinned == Rows.fnRunCommandsForgetRow.pinnedBy)) = true := by kernel_rfl
theorem jf30RowCF : ((Rows.fnRunCommandsForgetRow.veiled == (Tryz.f7.params.toList ++ Rows.fnRunCommandsForgetSpec.plain.varTypes Tryz.prog ++ Tryz.f7.resultTypes.toList).any (Tryz.prog.veiledRec ·))) = true := by kernel_rfl
theorem jf31RowCF : (Rows.fnRunCommandsForgetRow.veiledFits Tryz.prog Tryz.f7.params.toList (Tryz.f7.params.toList ++ Rows.fnRunCommandsForgetSpec.plain.varTypes Tryz.prog ++ Tryz.f7.resultTypes.toList)) = true := by kernel_rfl
end Go.Proofs.YtnlhpkbphdbknaaGreatDoor
