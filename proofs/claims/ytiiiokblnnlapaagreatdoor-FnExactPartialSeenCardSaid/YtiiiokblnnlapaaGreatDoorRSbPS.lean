/-
  Closing facts of a row, one theorem each.
-/
import Derived.Test.YtiiiokblnnlapaaGreatDoorRB
import Derived.Test.YtiiiokblnnlapaaGreatDoorCards
import Derived.Test.YtiiiokblnnlapaaGreatDoorTie
import Derived.ProofKit
import Derived.LaidMore
import Derived.Lay
import Derived.OpenShut
import Derived.Stop.Joined
import Derived.SevenTiedAt
namespace Go.Proofs.YtiiiokblnnlapaaGreatDoor
open Go.ChangeShapes Go.WideShapes Go.ChangeAt Go.RowKit
theorem jf12RowPS : ((Rows.fnExactPartialSeenRow.named == Tryz.prog.varsNamed 9)) = true := by kernel_rfl
theorem jf13RowPS : ((Rows.fnExactPartialSeenRow.maps == (Tryz.f9.params.toList ++ Rows.fnExactPartialSeenSpec.plain.varTypes Tryz.prog).any (Tryz.prog.mapsRec ·))) = true := by kernel_rfl
theorem jf14RowPS : ((Rows.fnExactPartialSeenRow.ifaces == (Tryz.f9.params.toList ++ Rows.fnExactPartialSeenSpec.plain.varTypes Tryz.prog).any (Tryz.prog.ifacesRec ·))) = true := by kernel_rfl
theorem jf15RowPS : ((Rows.fnExactPartialSeenRow.mapsOut == Tryz.prog.mapsAmong Tryz.f9.resultTypes.toList)) = true := by kernel_rfl
theorem jf16RowPS : ((Rows.fnExactPartialSeenRow.loops == (Tryz.f9.params.toList ++ Rows.fnExactPartialSeenSpec.plain.varTypes Tryz.prog).any (Tryz.prog.loopsFrom ·))) = true := by kernel_rfl
theorem jf17RowPS : ((Rows.fnExactPartialSeenRow.wideKeys == (Tryz.f9.params.toList ++ Rows.fnExactPartialSeenSpec.plain.varTypes Tryz.prog ++ Tryz.f9.resultTypes.toList).any (Tryz.prog.wideKeysFrom ·))) = true := by kernel_rfl
theorem jf18RowPS : (Rows.fnExactPartialSeenSpec.vars.all (Tryz.prog.varReadable ·)) = true := by kernel_rfl
theorem jf19RowPS : (Tryz.f9.resultTypes.all (fun t => Tryz.prog.readableRec t && decide (t < Tryz.prog.types.size))) = true := by kernel_rfl
theorem jf20RowPS : ((Rows.fnExactPartialSeenRow.ifacesOut == Tryz.f9.resultTypes.toList.any (Tryz.prog.ifacesRec ·))) = true := by kernel_rfl
theorem jf21RowPS : ((Rows.fnExactPartialSeenRow.loopsOut == Tryz.f9.resultTypes.toList.any (Tryz.prog.loopsFrom ·))) = true := by kernel_rfl
theorem jf22RowPS : ((Rows.fnExactPartialSeenRow.plainKeys == Tryz.prog.plainKeys)) = true := by kernel_rfl
theorem jf23RowPS : (Rows.fnExactPartialSeenRow.shortTexts.isNone) = true := by kernel_rfl
theorem jf24RowPS : (Tryz.prog.stopsHeard) = true := by kernel_rfl
theorem jf25RowPS : (Tryz.prog.mayEnter) = true := by kernel_rfl
theorem jf26RowPS : ((Rows.fnExactPartialSeenRow.lifted == Tryz.prog.liftsFinal)) = true := by kernel_rfl
theorem jf27RowPS : ((Tryz.prog.make == some Rows.fnExactPartialSeenRow.make)) = true := by kernel_rfl
theorem jf29RowPS : ((Rows.fnExactPartialSeenRow.pinned == Rows.fnExactPartialSeenRow.pinnedBy)) = true := by kernel_rfl
theorem jf30RowPS : ((Rows.fnExactPartialSeenRow.veiled == (Tryz.f9.params.toList ++ Rows.fnExactPartialSeenSpec.plain.varTypes Tryz.prog ++ Tryz.f9.resultTypes.toList).any (Tryz.prog.veiledRec ·))) = true := by kernel_rfl
theorem jf31RowPS : (Rows.fnExactPartialSeenRow.veiledFits Tryz.prog Tryz.f9.params.toList (Tryz.f9.params.toList ++ Rows.fnExactPartialSeenSpec.plain.varTypes Tryz.prog ++ Tryz.f9.resultTypes.toList)) = true := by kernel_rfl
end Go.Proofs.YtiiiokblnnlapaaGreatDoor
