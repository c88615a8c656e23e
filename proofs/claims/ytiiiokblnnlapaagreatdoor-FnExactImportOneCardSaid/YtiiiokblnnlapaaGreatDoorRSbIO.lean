/-
  Closing facts of a row, one theorem each.
-/
import Derived.Test.YtiiiokblnnlapaaGreatDoorRB
import Derived.Test.YtiiiokblnnlapaaGreatDoorCards
import Derived.Test.YtiiiokblnnlapaaGreatDoorTie
import Derived.ProofKit
import Derived.LaidMore
import Derived.Lay
import Derived.OpenShut
import Derived.Stop.Joined
import Derived.SevenTiedAt
namespace Go.Proofs.YtiiiokblnnlapaaGreatDoor
open Go.ChangeShapes Go.WideShapes Go.ChangeAt Go.RowKit
theorem jf12RowIO : ((Rows.fnExactImportOneRow.named == Tryz.prog.varsNamed 8)) = true := by kernel_rfl
theorem jf13RowIO : ((Rows.fnExactImportOneRow.maps == (Tryz.f8.params.toList ++ Rows.fnExactImportOneSpec.plain.varTypes Tryz.prog).any (Tryz.prog.mapsRec ·))) = true := by kernel_rfl
theorem jf14RowIO : ((Rows.fnExactImportOneRow.ifaces == (Tryz.f8.params.toList ++ Rows.fnExactImportOneSpec.plain.varTypes Tryz.prog).any (Tryz.prog.ifacesRec ·))) = true := by kernel_rfl
theorem jf15RowIO : ((Rows.fnExactImportOneRow.mapsOut == Tryz.prog.mapsAmong Tryz.f8.resultTypes.toList)) = true := by kernel_rfl
theorem jf16RowIO : ((Rows.fnExactImportOneRow.loops == (Tryz.f8.params.toList ++ Rows.fnExactImportOneSpec.plain.varTypes Tryz.prog).any (Tryz.prog.loopsFrom ·))) = true := by kernel_rfl
theorem jf17RowIO : ((Rows.fnExactImportOneRow.wideKeys == (Tryz.f8.params.toList ++ Rows.fnExactImportOneSpec.plain.varTypes Tryz.prog ++ Tryz.f8.resultTypes.toList).any (Tryz.prog.wideKeysFrom ·))) = true := by kernel_rfl
theorem jf18RowIO : (Rows.fnExactImportOneSpec.vars.all (Tryz.prog.varReadable ·)) = true := by kernel_rfl
theorem jf19RowIO : (Tryz.f8.resultTypes.all (fun t => Tryz.prog.readableRec t && decide (t < Tryz.prog.types.size))) = true := by kernel_rfl
theorem jf20RowIO : ((Rows.fnExactImportOneRow.ifacesOut == Tryz.f8.resultTypes.toList.any (Tryz.prog.ifacesRec ·))) = true := by kernel_rfl
theorem jf21RowIO : ((Rows.fnExactImportOneRow.loopsOut == Tryz.f8.resultTypes.toList.any (Tryz.prog.loopsFrom ·))) = true := by kernel_rfl
theorem jf22RowIO : ((Rows.fnExactImportOneRow.plainKeys == Tryz.prog.plainKeys)) = true := by kernel_rfl
theorem jf23RowIO : (Rows.fnExactImportOneRow.shortTexts.isNone) = true := by kernel_rfl
theorem jf24RowIO : (Tryz.prog.stopsHeard) = true := by kernel_rfl
theorem jf25RowIO : (Tryz.prog.mayEnter) = true := by kernel_rfl
theorem jf26RowIO : ((Rows.fnExactImportOneRow.lifted == Tryz.prog.liftsFinal)) = true := by kernel_rfl
theorem jf27RowIO : ((Tryz.prog.make == some Rows.fnExactImportOneRow.make)) = true := by kernel_rfl
theorem jf29RowIO : ((Rows.fnExactImportOneRow.pinned == Rows.fnExactImportOneRow.pinnedBy)) = true := by kernel_rfl
theorem jf30RowIO : ((Rows.fnExactImportOneRow.veiled == (Tryz.f8.params.toList ++ Rows.fnExactImportOneSpec.plain.varTypes Tryz.prog ++ Tryz.f8.resultTypes.toList).any (Tryz.prog.veiledRec ·))) = true := by kernel_rfl
theorem jf31RowIO : (Rows.fnExactImportOneRow.veiledFits Tryz.prog Tryz.f8.params.toList (Tryz.f8.params.toList ++ Rows.fnExactImportOneSpec.plain.varTypes Tryz.prog ++ Tryz.f8.resultTypes.toList)) = true := by kernel_rfl
end Go.Proofs.YtiiiokblnnlapaaGreatDoor
