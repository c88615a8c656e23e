/-
  Closing facts of a row, one theorem each.
-/
import Derived.Test.YtmenakmafojpaaaGreatDoorRB
import Derived.Test.YtmenakmafojpaaaGreatDoorCards
import Derived.Test.YtmenakmafojpaaaGreatDoorTie
import Derived.ProofKit
import Derived.LaidMore
import Derived.Lay
import Derived.OpenShut
import Derived.Stop.Joined
import Derived.SevenTiedAt
namespace Go.Proofs.YtmenakmafojpaaaGreatDoor
open Go.ChangeShapes Go.WideShapes Go.ChangeAt Go.RowKit
theorem jf12RowSO : ((Rows.fnStartOrderRow.named == Tryz.prog.varsNamed 3)) = true := by kernel_rfl
theorem jf13RowSO : ((Rows.fnStartOrderRow.maps == (Tryz.f3.params.toList ++ Rows.fnStartOrderSpec.plain.varTypes Tryz.prog).any (Tryz.prog.mapsRec ·))) = true := by kernel_rfl
theorem jf14RowSO : ((Rows.fnStartOrderRow.ifaces == (Tryz.f3.params.toList ++ Rows.fnStartOrderSpec.plain.varTypes Tryz.prog).any (Tryz.prog.ifacesRec ·))) = true := by kernel_rfl
theorem jf15RowSO : ((Rows.fnStartOrderRow.mapsOut == Tryz.prog.mapsAmong Tryz.f3.resultTypes.toList)) = true := by kernel_rfl
theorem jf16RowSO : ((Rows.fnStartOrderRow.loops == (Tryz.f3.params.toList ++ Rows.fnStartOrderSpec.plain.varTypes Tryz.prog).any (Tryz.prog.loopsFrom ·))) = true := by kernel_rfl
theorem jf17RowSO : ((Rows.fnStartOrderRow.wideKeys == (Tryz.f3.params.toList ++ Rows.fnStartOrderSpec.plain.varTypes Tryz.prog ++ Tryz.f3.resultTypes.toList).any (Tryz.prog.wideKeysFrom ·))) = true := by kernel_rfl
theorem jf18RowSO : (Rows.fnStartOrderSpec.vars.all (Tryz.prog.varReadable ·)) = true := by kernel_rfl
theorem jf19RowSO : (Tryz.f3.resultTypes.all (fun t => Tryz.prog.readableRec t && decide (t < Tryz.prog.types.size))) = true := by kernel_rfl
theorem jf20RowSO : ((Rows.fnStartOrderRow.ifacesOut == Tryz.f3.resultTypes.toList.any (Tryz.prog.ifacesRec ·))) = true := by kernel_rfl
theorem jf21RowSO : ((Rows.fnStartOrderRow.loopsOut == Tryz.f3.resultTypes.toList.any (Tryz.prog.loopsFrom ·))) = true := by kernel_rfl
theorem jf22RowSO : ((Rows.fnStartOrderRow.plainKeys == Tryz.prog.plainKeys)) = true := by kernel_rfl
theorem jf23RowSO : (Rows.fnStartOrderRow.shortTexts.isNone) = true := by kernel_rfl
theorem jf24RowSO : (Tryz.prog.stopsHeard) = true := by kernel_rfl
theorem jf25RowSO : (Tryz.prog.mayEnter) = true := by kernel_rfl
theorem jf26RowSO : ((Rows.fnStartOrderRow.lifted == Tryz.prog.liftsFinal)) = true := by kernel_rfl
theorem jf27RowSO : ((Tryz.prog.make == some Rows.fnStartOrderRow.make)) = true := by kernel_rfl
theorem jf29RowSO : ((Rows.fnStartOrderRow.pinned == Rows.fnStartOrderRow.pinnedBy)) = true := by kernel_rfl
theorem jf30RowSO : ((Rows.fnStartOrderRow.veiled == (Tryz.f3.params.toList ++ Rows.fnStartOrderSpec.plain.varTypes Tryz.prog ++ Tryz.f3.resultTypes.toList).any (Tryz.prog.veiledRec ·))) = true := by kernel_rfl
theorem jf31RowSO : (Rows.fnStartOrderRow.veiledFits Tryz.prog Tryz.f3.params.toList (Tryz.f3.params.toList ++ Rows.fnStartOrderSpec.plain.varTypes Tryz.prog ++ Tryz.f3.resultTypes.toList)) = true := by kernel_rfl
end Go.Proofs.YtmenakmafojpaaaGreatDoor
