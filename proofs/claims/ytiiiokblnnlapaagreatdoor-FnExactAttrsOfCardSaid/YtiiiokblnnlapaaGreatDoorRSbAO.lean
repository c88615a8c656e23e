/-
  Closing facts of a row, one theorem each.
-/
import Derived.Test.YtiiiokblnnlapaaGreatDoorRB
import Derived.Test.YtiiiokblnnlapaaGreatDoorCards
import Derived.Test.YtiiiokblnnlapaaGreatDoorTie
import Derived.ProofKit
import Derived.LaidMore
import Derived.Lay
import Derived.OpenShut
import Derived.Stop.Joined
import Derived.SevenTiedAt
namespace Go.Proofs.YtiiiokblnnlapaaGreatDoor
open Go.ChangeShapes Go.WideShapes Go.ChangeAt Go.RowKit
theorem jf12RowAO : ((Rows.fnExactAttrsOfRow.named == Tryz.prog.varsNamed 11)) = true := by kernel_rfl
theorem jf13RowAO : ((Rows.fnExactAttrsOfRow.maps == (Tryz.f11.params.toList ++ Rows.fnExactAttrsOfSpec.plain.varTypes Tryz.prog).any (Tryz.prog.mapsRec ·))) = true := by kernel_rfl
theorem jf14RowAO : ((Rows.fnExactAttrsOfRow.ifaces == (Tryz.f11.params.toList ++ Rows.fnExactAttrsOfSpec.plain.varTypes Tryz.prog).any (Tryz.prog.ifacesRec ·))) = true := by kernel_rfl
theorem jf15RowAO : ((Rows.fnExactAttrsOfRow.mapsOut == Tryz.prog.mapsAmong Tryz.f11.resultTypes.toList)) = true := by kernel_rfl
theorem jf16RowAO : ((Rows.fnExactAttrsOfRow.loops == (Tryz.f11.params.toList ++ Rows.fnExactAttrsOfSpec.plain.varTypes Tryz.prog).any (Tryz.prog.loopsFrom ·))) = true := by kernel_rfl
theorem jf17RowAO : ((Rows.fnExactAttrsOfRow.wideKeys == (Tryz.f11.params.toList ++ Rows.fnExactAttrsOfSpec.plain.varTypes Tryz.prog ++ Tryz.f11.resultTypes.toList).any (Tryz.prog.wideKeysFrom ·))) = true := by kernel_rfl
theorem jf18RowAO : (Rows.fnExactAttrsOfSpec.vars.all (Tryz.prog.varReadable ·)) = true := by kernel_rfl
theorem jf19RowAO : (Tryz.f11.resultTypes.all (fun t => Tryz.prog.readableRec t && decide (t < Tryz.prog.types.size))) = true := by kernel_rfl
theorem jf20RowAO : ((Rows.fnExactAttrsOfRow.ifacesOut == Tryz.f11.resultTypes.toList.any (Tryz.prog.ifacesRec ·))) = true := by kernel_rfl
theorem jf21RowAO : ((Rows.fnExactAttrsOfRow.loopsOut == Tryz.f11.resultTypes.toList.any (Tryz.prog.loopsFrom ·))) = true := by kernel_rfl
theorem jf22RowAO : ((Rows.fnExactAttrsOfRow.plainKeys == Tryz.prog.plainKeys)) = true := by kernel_rfl
theorem jf23RowAO : (Rows.fnExactAttrsOfRow.shortTexts.isNone) = true := by kernel_rfl
theorem jf24RowAO : (Tryz.prog.stopsHeard) = true := by kernel_rfl
theorem jf25RowAO : (Tryz.prog.mayEnter) = true := by kernel_rfl
theorem jf26RowAO : ((Rows.fnExactAttrsOfRow.lifted == Tryz.prog.liftsFinal)) = true := by kernel_rfl
theorem jf27RowAO : ((Tryz.prog.make == some Rows.fnExactAttrsOfRow.make)) = true := by kernel_rfl
theorem jf29RowAO : ((Rows.fnExactAttrsOfRow.pinned == Rows.fnExactAttrsOfRow.pinnedBy)) = true := by kernel_rfl
theorem jf30RowAO : ((Rows.fnExactAttrsOfRow.veiled == (Tryz.f11.params.toList ++ Rows.fnExactAttrsOfSpec.plain.varTypes Tryz.prog ++ Tryz.f11.resultTypes.toList).any (Tryz.prog.veiledRec ·))) = true := by kernel_rfl
theorem jf31RowAO : (Rows.fnExactAttrsOfRow.veiledFits Tryz.prog Tryz.f11.params.toList (Tryz.f11.params.toList ++ Rows.fnExactAttrsOfSpec.plain.varTypes Tryz.prog ++ Tryz.f11.resultTypes.toList)) = true := by kernel_rfl
end Go.Proofs.YtiiiokblnnlapaaGreatDoor
