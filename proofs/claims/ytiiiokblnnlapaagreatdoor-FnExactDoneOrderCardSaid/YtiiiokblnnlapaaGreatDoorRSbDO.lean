/-
  Closing facts of a row, one theorem each.
-/
import Derived.Test.YtiiiokblnnlapaaGreatDoorRBDO
import Derived.Test.YtiiiokblnnlapaaGreatDoorCards
import Derived.Test.YtiiiokblnnlapaaGreatDoorTie
import Derived.ProofKit
import Derived.LaidMore
import Derived.Lay
import Derived.OpenShut
import Derived.Stop.Joined
import Derived.SevenTiedAt
namespace Go.Proofs.YtiiiokblnnlapaaGreatDoor
open Go.ChangeShapes Go.WideShapes Go.ChangeAt Go.RowKit
theorem jf12RowDO : ((Rows.fnExactDoneOrderRow.named == Tryz.prog.varsNamed 6)) = true := by kernel_rfl
theorem jf13RowDO : ((Rows.fnExactDoneOrderRow.maps == (Tryz.f6.params.toList ++ Rows.fnExactDoneOrderSpec.plain.varTypes Tryz.prog).any (Tryz.prog.mapsRec ·))) = true := by kernel_rfl
theorem jf14RowDO : ((Rows.fnExactDoneOrderRow.ifaces == (Tryz.f6.params.toList ++ Rows.fnExactDoneOrderSpec.plain.varTypes Tryz.prog).any (Tryz.prog.ifacesRec ·))) = true := by kernel_rfl
theorem jf15RowDO : ((Rows.fnExactDoneOrderRow.mapsOut == Tryz.prog.mapsAmong Tryz.f6.resultTypes.toList)) = true := by kernel_rfl
theorem jf16RowDO : ((Rows.fnExactDoneOrderRow.loops == (Tryz.f6.params.toList ++ Rows.fnExactDoneOrderSpec.plain.varTypes Tryz.prog).any (Tryz.prog.loopsFrom ·))) = true := by kernel_rfl
theorem jf17RowDO : ((Rows.fnExactDoneOrderRow.wideKeys == (Tryz.f6.params.toList ++ Rows.fnExactDoneOrderSpec.plain.varTypes Tryz.prog ++ Tryz.f6.resultTypes.toList).any (Tryz.prog.wideKeysFrom ·))) = true := by kernel_rfl
theorem jf18RowDO : (Rows.fnExactDoneOrderSpec.vars.all (Tryz.prog.varReadable ·)) = true := by kernel_rfl
theorem jf19RowDO : (Tryz.f6.resultTypes.all (fun t => Tryz.prog.readableRec t && decide (t < Tryz.prog.types.size))) = true := by kernel_rfl
theorem jf20RowDO : ((Rows.fnExactDoneOrderRow.ifacesOut == Tryz.f6.resultTypes.toList.any (Tryz.prog.ifacesRec ·))) = true := by kernel_rfl
theorem jf21RowDO : ((Rows.fnExactDoneOrderRow.loopsOut == Tryz.f6.resultTypes.toList.any (Tryz.prog.loopsFrom ·))) = true := by kernel_rfl
theorem jf22RowDO : ((Rows.fnExactDoneOrderRow.plainKeys == Tryz.prog.plainKeys)) = true := by kernel_rfl
theorem jf23RowDO : (Rows.fnExactDoneOrderRow.shortTexts.isNone) = true := by kernel_rfl
theorem jf24RowDO : (Tryz.prog.stopsHeard) = true := by kernel_rfl
theorem jf25RowDO : (Tryz.prog.mayEnter) = true := by kernel_rfl
theorem jf26RowDO : ((Rows.fnExactDoneOrderRow.lifted == Tryz.prog.liftsFinal)) = true := by kernel_rfl
theorem jf27RowDO : ((Tryz.prog.make == some Rows.fnExactDoneOrderRow.make)) = true := by kernel_rfl
theorem jf29RowDO : ((Rows.fnExactDoneOrderRow.pinned == Rows.fnExactDoneOrderRow.pinnedBy)) = true := by kernel_rfl
theorem jf30RowDO : ((Rows.fnExactDoneOrderRow.veiled == (Tryz.f6.params.toList ++ Rows.fnExactDoneOrderSpec.plain.varTypes Tryz.prog ++ Tryz.f6.resultTypes.toList).any (Tryz.prog.veiledRec ·))) = true := by kernel_rfl
theorem jf31RowDO : (Rows.fnExactDoneOrderRow.veiledFits Tryz.prog Tryz.f6.params.toList (Tryz.f6.params.toList ++ Rows.fnExactDoneOrderSpec.plain.varTypes Tryz.prog ++ Tryz.f6.resultTypes.toList)) = true := by kernel_rfl
end Go.Proofs.YtiiiokblnnlapaaGreatDoor
