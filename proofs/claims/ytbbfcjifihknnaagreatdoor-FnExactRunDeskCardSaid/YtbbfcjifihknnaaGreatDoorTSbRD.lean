/-
  Closing facts of a row, one theorem each.
-/
import Derived.Test.YtbbfcjifihknnaaGreatDoorTB
import Derived.Test.YtbbfcjifihknnaaGreatDoorCards
import Derived.Test.YtbbfcjifihknnaaGreatDoorTie
import Derived.ProofKit
import Derived.LaidMore
import Derived.Lay
import Derived.OpenShut
import Derived.Stop.Joined
import Derived.SevenTiedAt
import Derived.OpenVars
namespace Go.Proofs.YtbbfcjifihknnaaGreatDoor
open Go.ChangeShapes Go.WideShapes Go.ChangeAt Go.RowKit
theorem jf12RowRD : ((Rows.fnExactRunDeskRow.named == Tryz.prog.varsNamed 6)) = true := by kernel_rfl
theorem jf13RowRD : ((Rows.fnExactRunDeskRow.maps == (Tryz.f6.params.toList ++ Rows.fnExactRunDeskSpec.plain.varTypes Tryz.prog).any (Tryz.prog.mapsRec ·))) = true := by kernel_rfl
theorem jf14RowRD : ((Rows.fnExactRunDeskRow.ifaces == (Tryz.f6.params.toList ++ Rows.fnExactRunDeskSpec.plain.varTypes Tryz.prog).any (Tryz.prog.ifacesRec ·))) = true := by kernel_rfl
theorem jf15RowRD : ((Rows.fnExactRunDeskRow.mapsOut == Tryz.prog.mapsAmong Tryz.f6.resultTypes.toList)) = true := by kernel_rfl
theorem jf16RowRD : ((Rows.fnExactRunDeskRow.loops == (Tryz.f6.params.toList ++ Rows.fnExactRunDeskSpec.plain.varTypes Tryz.prog).any (Tryz.prog.loopsFrom ·))) = true := by kernel_rfl
theorem jf17RowRD : ((Rows.fnExactRunDeskRow.wideKeys == (Tryz.f6.params.toList ++ Rows.fnExactRunDeskSpec.plain.varTypes Tryz.prog ++ Tryz.f6.resultTypes.toList).any (Tryz.prog.wideKeysFrom ·))) = true := by kernel_rfl
theorem jf18RowRD : (Rows.fnExactRunDeskSpec.vars.all (Tryz.prog.varReadable ·)) = true := by kernel_rfl
theorem jf19RowRD : (Tryz.f6.resultTypes.all (fun t => Tryz.prog.readableRec t && decide (t < Tryz.prog.types.size))) = true := by kernel_rfl
theorem jf20RowRD : ((Rows.fnExactRunDeskRow.ifacesOut == Tryz.f6.resultTypes.toList.any (Tryz.prog.ifacesRec ·))) = true := by kernel_rfl
theorem jf21RowRD : ((Rows.fnExactRunDeskRow.loopsOut == Tryz.f6.resultTypes.toList.any (Tryz.prog.loopsFrom ·))) = true := by kernel_rfl
theorem jf22RowRD : ((Rows.fnExactRunDeskRow.plainKeys == Tryz.prog.plainKeys)) = true := by kernel_rfl
theorem jf23RowRD : (Rows.fnExactRunDeskRow.shortTexts.isNone) = true := by kernel_rfl
theorem jf24RowRD : (Tryz.prog.stopsHeard) = true := by kernel_rfl
theorem jf25RowRD : (Tryz.prog.mayEnter) = true := by kernel_rfl
theorem jf26RowRD : ((Rows.fnExactRunDeskRow.lifted == Tryz.prog.liftsFinal)) = true := by kernel_rfl
theorem jf27RowRD : ((Tryz.prog.make == some Rows.fnExactRunDeskRow.make)) = true := by kernel_rfl
theorem jf29RowRD : ((Rows.fnExactRunDeskRow.pinned == Rows.fnExactRunDeskRow.pinnedBy)) = true := by kernel_rfl
theorem jf30RowRD : ((Rows.fnExactRunDeskRow.veiled == (Tryz.f6.params.toList ++ Rows.fnExactRunDeskSpec.plain.varTypes Tryz.prog ++ Tryz.f6.resultTypes.toList).any (Tryz.prog.veiledRec ·))) = true := by kernel_rfl
theorem jf31RowRD : (Rows.fnExactRunDeskRow.veiledFits Tryz.prog Tryz.f6.params.toList (Tryz.f6.params.toList ++ Rows.fnExactRunDeskSpec.plain.varTypes Tryz.prog ++ Tryz.f6.resultTypes.toList)) = true := by kernel_rfl
end Go.Proofs.YtbbfcjifihknnaaGreatDoor
