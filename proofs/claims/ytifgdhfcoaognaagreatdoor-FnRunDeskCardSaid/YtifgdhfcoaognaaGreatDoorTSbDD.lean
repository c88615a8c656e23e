/-
  Closing facts of a row, one theorem each.
-/
import Derived.Test.YtifgdhfcoaognaaGreatDoorTB
import Derived.Test.YtifgdhfcoaognaaGreatDoorCards
import Derived.Test.YtifgdhfcoaognaaGreatDoorTie
import Derived.ProofKit
import Derived.LaidMore
import Derived.Lay
import Derived.OpenShut
import Derived.Stop.Joined
import Derived.SevenTiedAt
import Derived.OpenVars
namespace Go.Proofs.YtifgdhfcoaognaaGreatDoor
open Go.ChangeShapes Go.WideShapes Go.ChangeAt Go.RowKit
theorem jf12RowDD : ((Rows.fnRunDeskRow.named == Tryz.prog.varsNamed 3)) = true := by kernel_rfl
theorem jf13RowDD : ((Rows.fnRunDeskRow.maps == (Tryz.f3.params.toList ++ Rows.fnRunDeskSpec.plain.varTypes Tryz.prog).any (Tryz.prog.mapsRec ·))) = true := by kernel_rfl
theorem jf14RowDD : ((Rows.fnRunDeskRow.ifaces == (Tryz.f3.params.toList ++ Rows.fnRunDeskSpec.plain.varTypes Tryz.prog).any (Tryz.prog.ifacesRec ·))) = true := by kernel_rfl
theorem jf15RowDD : ((Rows.fnRunDeskRow.mapsOut == Tryz.prog.mapsAmong Tryz.f3.resultTypes.toList)) = true := by kernel_rfl
theorem jf16RowDD : ((Rows.fnRunDeskRow.loops == (Tryz.f3.params.toList ++ Rows.fnRunDeskSpec.plain.varTypes Tryz.prog).any (Tryz.prog.loopsFrom ·))) = true := by kernel_rfl
theorem jf17RowDD : ((Rows.fnRunDeskRow.wideKeys == (Tryz.f3.params.toList ++ Rows.fnRunDeskSpec.plain.varTypes Tryz.prog ++ Tryz.f3.resultTypes.toList).any (Tryz.prog.wideKeysFrom ·))) = true := by kernel_rfl
theorem jf18RowDD : (Rows.fnRunDeskSpec.vars.all (Tryz.prog.varReadable ·)) = true := by kernel_rfl
theorem jf19RowDD : (Tryz.f3.resultTypes.all (fun t => Tryz.prog.readableRec t && decide (t < Tryz.prog.types.size))) = true := by kernel_rfl
theorem jf20RowDD : ((Rows.fnRunDeskRow.ifacesOut == Tryz.f3.resultTypes.toList.any (Tryz.prog.ifacesRec ·))) = true := by kernel_rfl
theorem jf21RowDD : ((Rows.fnRunDeskRow.loopsOut == Tryz.f3.resultTypes.toList.any (Tryz.prog.loopsFrom ·))) = true := by kernel_rfl
theorem jf22RowDD : ((Rows.fnRunDeskRow.plainKeys == Tryz.prog.plainKeys)) = true := by kernel_rfl
theorem jf23RowDD : (Rows.fnRunDeskRow.shortTexts.isNone) = true := by kernel_rfl
theorem jf24RowDD : (Tryz.prog.stopsHeard) = true := by kernel_rfl
theorem jf25RowDD : (Tryz.prog.mayEnter) = true := by kernel_rfl
theorem jf26RowDD : ((Rows.fnRunDeskRow.lifted == Tryz.prog.liftsFinal)) = true := by kernel_rfl
theorem jf27RowDD : ((Tryz.prog.make == some Rows.fnRunDeskRow.make)) = true := by kernel_rfl
theorem jf29RowDD : ((Rows.fnRunDeskRow.pinned == Rows.fnRunDeskRow.pinnedBy)) = true := by kernel_rfl
theorem jf30RowDD : ((Rows.fnRunDeskRow.veiled == (Tryz.f3.params.toList ++ Rows.fnRunDeskSpec.plain.varTypes Tryz.prog ++ Tryz.f3.resultTypes.toList).any (Tryz.prog.veiledRec ·))) = true := by kernel_rfl
theorem jf31RowDD : (Rows.fnRunDeskRow.veiledFits Tryz.prog Tryz.f3.params.toList (Tryz.f3.params.toList ++ Rows.fnRunDeskSpec.plain.varTypes Tryz.prog ++ Tryz.f3.resultTypes.toList)) = true := by kernel_rfl
end Go.Proofs.YtifgdhfcoaognaaGreatDoor
