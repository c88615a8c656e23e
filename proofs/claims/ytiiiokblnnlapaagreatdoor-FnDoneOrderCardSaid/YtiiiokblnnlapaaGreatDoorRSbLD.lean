/-
  Closing facts of a row, one theorem each.
-/
import Derived.Test.YtiiiokblnnlapaaGreatDoorRBLD
import Derived.Test.YtiiiokblnnlapaaGreatDoorCards
import Derived.Test.YtiiiokblnnlapaaGreatDoorTie
import Derived.ProofKit
import Derived.LaidMore
import Derived.Lay
import Derived.OpenShut
import Derived.Stop.Joined
import Derived.SevenTiedAt
namespace Go.Proofs.YtiiiokblnnlapaaGreatDoor
open Go.ChangeShapes Go.WideShapes Go.ChangeAt Go.RowKit
theorem jf12RowLD : ((Rows.fnDoneOrderRow.named == Tryz.prog.varsNamed 4)) = true := by kernel_rfl
theorem jf13RowLD : ((Rows.fnDoneOrderRow.maps == (Tryz.f4.params.toList ++ Rows.fnDoneOrderSpec.plain.varTypes Tryz.prog).any (Tryz.prog.mapsRec ·))) = true := by kernel_rfl
theorem jf14RowLD : ((Rows.fnDoneOrderRow.ifaces == (Tryz.f4.params.toList ++ Rows.fnDoneOrderSpec.plain.varTypes Tryz.prog).any (Tryz.prog.ifacesRec ·))) = true := by kernel_rfl
theorem jf15RowLD : ((Rows.fnDoneOrderRow.mapsOut == Tryz.prog.mapsAmong Tryz.f4.resultTypes.toList)) = true := by kernel_rfl
theorem jf16RowLD : ((Rows.fnDoneOrderRow.loops == (Tryz.f4.params.toList ++ Rows.fnDoneOrderSpec.plain.varTypes Tryz.prog).any (Tryz.prog.loopsFrom ·))) = true := by kernel_rfl
theorem jf17RowLD : ((Rows.fnDoneOrderRow.wideKeys == (Tryz.f4.params.toList ++ Rows.fnDoneOrderSpec.plain.varTypes Tryz.prog ++ Tryz.f4.resultTypes.toList).any (Tryz.prog.wideKeysFrom ·))) = true := by kernel_rfl
theorem jf18RowLD : (Rows.fnDoneOrderSpec.vars.all (Tryz.prog.varReadable ·)) = true := by kernel_rfl
theorem jf19RowLD : (Tryz.f4.resultTypes.all (fun t => Tryz.prog.readableRec t && decide (t < Tryz.prog.types.size))) = true := by kernel_rfl
theorem jf20RowLD : ((Rows.fnDoneOrderRow.ifacesOut == Tryz.f4.resultTypes.toList.any (Tryz.prog.ifacesRec ·))) = true := by kernel_rfl
theorem jf21RowLD : ((Rows.fnDoneOrderRow.loopsOut == Tryz.f4.resultTypes.toList.any (Tryz.prog.loopsFrom ·))) = true := by kernel_rfl
theorem jf22RowLD : ((Rows.fnDoneOrderRow.plainKeys == Tryz.prog.plainKeys)) = true := by kernel_rfl
theorem jf23RowLD : (Rows.fnDoneOrderRow.shortTexts.isNone) = true := by kernel_rfl
theorem jf24RowLD : (Tryz.prog.stopsHeard) = true := by kernel_rfl
theorem jf25RowLD : (Tryz.prog.mayEnter) = true := by kernel_rfl
theorem jf26RowLD : ((Rows.fnDoneOrderRow.lifted == Tryz.prog.liftsFinal)) = true := by kernel_rfl
theorem jf27RowLD : ((Tryz.prog.make == some Rows.fnDoneOrderRow.make)) = true := by kernel_rfl
theorem jf29RowLD : ((Rows.fnDoneOrderRow.pinned == Rows.fnDoneOrderRow.pinnedBy)) = true := by kernel_rfl
theorem jf30RowLD : ((Rows.fnDoneOrderRow.veiled == (Tryz.f4.params.toList ++ Rows.fnDoneOrderSpec.plain.varTypes Tryz.prog ++ Tryz.f4.resultTypes.toList).any (Tryz.prog.veiledRec ·))) = true := by kernel_rfl
theorem jf31RowLD : (Rows.fnDoneOrderRow.veiledFits Tryz.prog Tryz.f4.params.toList (Tryz.f4.params.toList ++ Rows.fnDoneOrderSpec.plain.varTypes Tryz.prog ++ Tryz.f4.resultTypes.toList)) = true := by kernel_rfl
end Go.Proofs.YtiiiokblnnlapaaGreatDoor
