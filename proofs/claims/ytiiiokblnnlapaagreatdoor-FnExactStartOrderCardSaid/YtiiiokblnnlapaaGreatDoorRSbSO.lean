/-
  Closing facts of a row, one theorem each.
-/
import Derived.Test.YtiiiokblnnlapaaGreatDoorRB
import Derived.Test.YtiiiokblnnlapaaGreatDoorCards
import Derived.Test.YtiiiokblnnlapaaGreatDoorTie
import Derived.ProofKit
import Derived.LaidMore
import Derived.Lay
import Derived.OpenShut
import Derived.Stop.Joined
import Derived.SevenTiedAt
namespace Go.Proofs.YtiiiokblnnlapaaGreatDoor
open Go.ChangeShapes Go.WideShapes Go.ChangeAt Go.RowKit
theorem jf12RowSO : ((Rows.fnExactStartOrderRow.named == Tryz.prog.varsNamed 7)) = true := by kernel_rfl
theorem jf13RowSO : ((Rows.fnExactStartOrderRow.maps == (Tryz.f7.params.toList ++ Rows.fnExactStartOrderSpec.plain.varTypes Tryz.prog).any (Tryz.prog.mapsRec ·))) = true := by kernel_rfl
theorem jf14RowSO : ((Rows.fnExactStartOrderRow.ifaces == (Tryz.f7.params.toList ++ Rows.fnExactStartOrderSpec.plain.varTypes Tryz.prog).any (Tryz.prog.ifacesRec ·))) = true := by kernel_rfl
theorem jf15RowSO : ((Rows.fnExactStartOrderRow.mapsOut == Tryz.prog.mapsAmong Tryz.f7.resultTypes.toList)) = true := by kernel_rfl
theorem jf16RowSO : ((Rows.fnExactStartOrderRow.loops == (Tryz.f7.params.toList ++ Rows.fnExactStartOrderSpec.plain.varTypes Tryz.prog).any (Tryz.prog.loopsFrom ·))) = true := by kernel_rfl
theorem jf17RowSO : ((Rows.fnExactStartOrderRow.wideKeys == (Tryz.f7.params.toList ++ Rows.fnExactStartOrderSpec.plain.varTypes Tryz.prog ++ Tryz.f7.resultTypes.toList).any (Tryz.prog.wideKeysFrom ·))) = true := by kernel_rfl
theorem jf18RowSO : (Rows.fnExactStartOrderSpec.vars.all (Tryz.prog.varReadable ·)) = true := by kernel_rfl
theorem jf19RowSO : (Tryz.f7.resultTypes.all (fun t => Tryz.prog.readableRec t && decide (t < Tryz.prog.types.size))) = true := by kernel_rfl
theorem jf20RowSO : ((Rows.fnExactStartOrderRow.ifacesOut == Tryz.f7.resultTypes.toList.any (Tryz.prog.ifacesRec ·))) = true := by kernel_rfl
theorem jf21RowSO : ((Rows.fnExactStartOrderRow.loopsOut == Tryz.f7.resultTypes.toList.any (Tryz.prog.loopsFrom ·))) = true := by kernel_rfl
theorem jf22RowSO : ((Rows.fnExactStartOrderRow.plainKeys == Tryz.prog.plainKeys)) = true := by kernel_rfl
theorem jf23RowSO : (Rows.fnExactStartOrderRow.shortTexts.isNone) = true := by kernel_rfl
theorem jf24RowSO : (Tryz.prog.stopsHeard) = true := by kernel_rfl
theorem jf25RowSO : (Tryz.prog.mayEnter) = true := by kernel_rfl
theorem jf26RowSO : ((Rows.fnExactStartOrderRow.lifted == Tryz.prog.liftsFinal)) = true := by kernel_rfl
theorem jf27RowSO : ((Tryz.prog.make == some Rows.fnExactStartOrderRow.make)) = true := by kernel_rfl
theorem jf29RowSO : ((Rows.fnExactStartOrderRow.pinned == Rows.fnExactStartOrderRow.pinnedBy)) = true := by kernel_rfl
theorem jf30RowSO : ((Rows.fnExactStartOrderRow.veiled == (Tryz.f7.params.toList ++ Rows.fnExactStartOrderSpec.plain.varTypes Tryz.prog ++ Tryz.f7.resultTypes.toList).any (Tryz.prog.veiledRec ·))) = true := by kernel_rfl
theorem jf31RowSO : (Rows.fnExactStartOrderRow.veiledFits Tryz.prog Tryz.f7.params.toList (Tryz.f7.params.toList ++ Rows.fnExactStartOrderSpec.plain.varTypes Tryz.prog ++ Tryz.f7.resultTypes.toList)) = true := by kernel_rfl
end Go.Proofs.YtiiiokblnnlapaaGreatDoor
