/-
  Closing facts of a row, one theorem each.
-/
import Derived.Test.YtiiiokblnnlapaaGreatDoorRBFF
import Derived.Test.YtiiiokblnnlapaaGreatDoorCards
import Derived.Test.YtiiiokblnnlapaaGreatDoorTie
import Derived.ProofKit
import Derived.LaidMore
import Derived.Lay
import Derived.OpenShut
import Derived.Stop.Joined
import Derived.SevenTiedAt
namespace Go.Proofs.YtiiiokblnnlapaaGreatDoor
open Go.ChangeShapes Go.WideShapes Go.ChangeAt Go.RowKit
theorem jf12RowFF : ((Rows.fnExactFirstFailureRow.named == Tryz.prog.varsNamed 3)) = true := by kernel_rfl
theorem jf13RowFF : ((Rows.fnExactFirstFailureRow.maps == (Tryz.f3.params.toList ++ Rows.fnExactFirstFailureSpec.plain.varTypes Tryz.prog).any (Tryz.prog.mapsRec ·))) = true := by kernel_rfl
theorem jf14RowFF : ((Rows.fnExactFirstFailureRow.ifaces == (Tryz.f3.params.toList ++ Rows.fnExactFirstFailureSpec.plain.varTypes Tryz.prog).any (Tryz.prog.ifacesRec ·))) = true := by kernel_rfl
theorem jf15RowFF : ((Rows.fnExactFirstFailureRow.mapsOut == Tryz.prog.mapsAmong Tryz.f3.resultTypes.toList)) = true := by kernel_rfl
theorem jf16RowFF : ((Rows.fnExactFirstFailureRow.loops == (Tryz.f3.params.toList ++ Rows.fnExactFirstFailureSpec.plain.varTypes Tryz.prog).any (Tryz.prog.loopsFrom ·))) = true := by kernel_rfl
theorem jf17RowFF : ((Rows.fnExactFirstFailureRow.wideKeys == (Tryz.f3.params.toList ++ Rows.fnExactFirstFailureSpec.plain.varTypes Tryz.prog ++ Tryz.f3.resultTypes.toList).any (Tryz.prog.wideKeysFrom ·))) = true := by kernel_rfl
theorem jf18RowFF : (Rows.fnExactFirstFailureSpec.vars.all (Tryz.prog.varReadable ·)) = true := by kernel_rfl
theorem jf19RowFF : (Tryz.f3.resultTypes.all (fun t => Tryz.prog.readableRec t && decide (t < Tryz.prog.types.size))) = true := by kernel_rfl
theorem jf20RowFF : ((Rows.fnExactFirstFailureRow.ifacesOut == Tryz.f3.resultTypes.toList.any (Tryz.prog.ifacesRec ·))) = true := by kernel_rfl
theorem jf21RowFF : ((Rows.fnExactFirstFailureRow.loopsOut == Tryz.f3.resultTypes.toList.any (Tryz.prog.loopsFrom ·))) = true := by kernel_rfl
theorem jf22RowFF : ((Rows.fnExactFirstFailureRow.plainKeys == Tryz.prog.plainKeys)) = true := by kernel_rfl
theorem jf23RowFF : (Rows.fnExactFirstFailureRow.shortTexts.isNone) = true := by kernel_rfl
theorem jf24RowFF : (Tryz.prog.stopsHeard) = true := by kernel_rfl
theorem jf25RowFF : (Tryz.prog.mayEnter) = true := by kernel_rfl
theorem jf26RowFF : ((Rows.fnExactFirstFailureRow.lifted == Tryz.prog.liftsFinal)) = true := by kernel_rfl
theorem jf27RowFF : ((Tryz.prog.make == some Rows.fnExactFirstFailureRow.make)) = true := by kernel_rfl
theorem jf29RowFF : ((Rows.fnExactFirstFailureRow.pinned == Rows.fnExactFirstFailureRow.pinnedBy)) = true := by kernel_rfl
theorem jf30RowFF : ((Rows.fnExactFirstFailureRow.veiled == (Tryz.f3.params.toList ++ Rows.fnExactFirstFailureSpec.plain.varTypes Tryz.prog ++ Tryz.f3.resultTypes.toList).any (Tryz.prog.veiledRec ·))) = true := by kernel_rfl
theorem jf31RowFF : (Rows.fnExactFirstFailureRow.veiledFits Tryz.prog Tryz.f3.params.toList (Tryz.f3.params.toList ++ Rows.fnExactFirstFailureSpec.plain.varTypes Tryz.prog ++ Tryz.f3.resultTypes.toList)) = true := by kernel_rfl
end Go.Proofs.YtiiiokblnnlapaaGreatDoor
