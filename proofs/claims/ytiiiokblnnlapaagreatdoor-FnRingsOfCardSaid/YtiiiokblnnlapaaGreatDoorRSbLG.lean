/-
  Closing facts of a row, one theorem each.
-/
import Derived.Test.YtiiiokblnnlapaaGreatDoorRBLG
import Derived.Test.YtiiiokblnnlapaaGreatDoorCards
import Derived.Test.YtiiiokblnnlapaaGreatDoorTie
import Derived.ProofKit
import Derived.LaidMore
import Derived.Lay
import Derived.OpenShut
import Derived.Stop.Joined
import Derived.SevenTiedAt
namespace Go.Proofs.YtiiiokblnnlapaaGreatDoor
open Go.ChangeShapes Go.WideShapes Go.ChangeAt Go.RowKit
theorem jf12RowLG : ((Rows.fnRingsOfRow.named == Tryz.prog.varsNamed 5)) = true := by kernel_rfl
theorem jf13RowLG : ((Rows.fnRingsOfRow.maps == (Tryz.f5.params.toList ++ Rows.fnRingsOfSpec.plain.varTypes Tryz.prog).any (Tryz.prog.mapsRec ·))) = true := by kernel_rfl
theorem jf14RowLG : ((Rows.fnRingsOfRow.ifaces == (Tryz.f5.params.toList ++ Rows.fnRingsOfSpec.plain.varTypes Tryz.prog).any (Tryz.prog.ifacesRec ·))) = true := by kernel_rfl
theorem jf15RowLG : ((Rows.fnRingsOfRow.mapsOut == Tryz.prog.mapsAmong Tryz.f5.resultTypes.toList)) = true := by kernel_rfl
theorem jf16RowLG : ((Rows.fnRingsOfRow.loops == (Tryz.f5.params.toList ++ Rows.fnRingsOfSpec.plain.varTypes Tryz.prog).any (Tryz.prog.loopsFrom ·))) = true := by kernel_rfl
theorem jf17RowLG : ((Rows.fnRingsOfRow.wideKeys == (Tryz.f5.params.toList ++ Rows.fnRingsOfSpec.plain.varTypes Tryz.prog ++ Tryz.f5.resultTypes.toList).any (Tryz.prog.wideKeysFrom ·))) = true := by kernel_rfl
theorem jf18RowLG : (Rows.fnRingsOfSpec.vars.all (Tryz.prog.varReadable ·)) = true := by kernel_rfl
theorem jf19RowLG : (Tryz.f5.resultTypes.all (fun t => Tryz.prog.readableRec t && decide (t < Tryz.prog.types.size))) = true := by kernel_rfl
theorem jf20RowLG : ((Rows.fnRingsOfRow.ifacesOut == Tryz.f5.resultTypes.toList.any (Tryz.prog.ifacesRec ·))) = true := by kernel_rfl
theorem jf21RowLG : ((Rows.fnRingsOfRow.loopsOut == Tryz.f5.resultTypes.toList.any (Tryz.prog.loopsFrom ·))) = true := by kernel_rfl
theorem jf22RowLG : ((Rows.fnRingsOfRow.plainKeys == Tryz.prog.plainKeys)) = true := by kernel_rfl
theorem jf23RowLG : (Rows.fnRingsOfRow.shortTexts.isNone) = true := by kernel_rfl
theorem jf24RowLG : (Tryz.prog.stopsHeard) = true := by kernel_rfl
theorem jf25RowLG : (Tryz.prog.mayEnter) = true := by kernel_rfl
theorem jf26RowLG : ((Rows.fnRingsOfRow.lifted == Tryz.prog.liftsFinal)) = true := by kernel_rfl
theorem jf27RowLG : ((Tryz.prog.make == some Rows.fnRingsOfRow.make)) = true := by kernel_rfl
theorem jf29RowLG : ((Rows.fnRingsOfRow.pinned == Rows.fnRingsOfRow.pinnedBy)) = true := by kernel_rfl
theorem jf30RowLG : ((Rows.fnRingsOfRow.veiled == (Tryz.f5.params.toList ++ Rows.fnRingsOfSpec.plain.varTypes Tryz.prog ++ Tryz.f5.resultTypes.toList).any (Tryz.prog.veiledRec ·))) = true := by kernel_rfl
theorem jf31RowLG : (Rows.fnRingsOfRow.veiledFits Tryz.prog Tryz.f5.params.toList (Tryz.f5.params.toList ++ Rows.fnRingsOfSpec.plain.varTypes Tryz.prog ++ Tryz.f5.resultTypes.toList)) = true := by kernel_rfl
end Go.Proofs.YtiiiokblnnlapaaGreatDoor
