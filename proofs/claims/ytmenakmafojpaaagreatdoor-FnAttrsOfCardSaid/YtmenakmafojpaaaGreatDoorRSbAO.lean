/-
  Closing facts of a row, one theorem each.
-/
import Derived.Test.YtmenakmafojpaaaGreatDoorRB
import Derived.Test.YtmenakmafojpaaaGreatDoorCards
import Derived.Test.YtmenakmafojpaaaGreatDoorTie
import Derived.ProofKit
import Derived.LaidMore
import Derived.Lay
import Derived.OpenShut
import Derived.Stop.Joined
import Derived.SevenTiedAt
namespace Go.Proofs.YtmenakmafojpaaaGreatDoor
open Go.ChangeShapes Go.WideShapes Go.ChangeAt Go.RowKit
theorem jf12RowAO : ((Rows.fnAttrsOfRow.named == Tryz.prog.varsNamed 4)) = true := by kernel_rfl
theorem jf13RowAO : ((Rows.fnAttrsOfRow.maps == (Tryz.f4.params.toList ++ Rows.fnAttrsOfSpec.plain.varTypes Tryz.prog).any (Tryz.prog.mapsRec ·))) = true := by kernel_rfl
theorem jf14RowAO : ((Rows.fnAttrsOfRow.ifaces == (Tryz.f4.params.toList ++ Rows.fnAttrsOfSpec.plain.varTypes Tryz.prog).any (Tryz.prog.ifacesRec ·))) = true := by kernel_rfl
theorem jf15RowAO : ((Rows.fnAttrsOfRow.mapsOut == Tryz.prog.mapsAmong Tryz.f4.resultTypes.toList)) = true := by kernel_rfl
theorem jf16RowAO : ((Rows.fnAttrsOfRow.loops == (Tryz.f4.params.toList ++ Rows.fnAttrsOfSpec.plain.varTypes Tryz.prog).any (Tryz.prog.loopsFrom ·))) = true := by kernel_rfl
theorem jf17RowAO : ((Rows.fnAttrsOfRow.wideKeys == (Tryz.f4.params.toList ++ Rows.fnAttrsOfSpec.plain.varTypes Tryz.prog ++ Tryz.f4.resultTypes.toList).any (Tryz.prog.wideKeysFrom ·))) = true := by kernel_rfl
theorem jf18RowAO : (Rows.fnAttrsOfSpec.vars.all (Tryz.prog.varReadable ·)) = true := by kernel_rfl
theorem jf19RowAO : (Tryz.f4.resultTypes.all (fun t => Tryz.prog.readableRec t && decide (t < Tryz.prog.types.size))) = true := by kernel_rfl
theorem jf20RowAO : ((Rows.fnAttrsOfRow.ifacesOut == Tryz.f4.resultTypes.toList.any (Tryz.prog.ifacesRec ·))) = true := by kernel_rfl
theorem jf21RowAO : ((Rows.fnAttrsOfRow.loopsOut == Tryz.f4.resultTypes.toList.any (Tryz.prog.loopsFrom ·))) = true := by kernel_rfl
theorem jf22RowAO : ((Rows.fnAttrsOfRow.plainKeys == Tryz.prog.plainKeys)) = true := by kernel_rfl
theorem jf23RowAO : (Rows.fnAttrsOfRow.shortTexts.isNone) = true := by kernel_rfl
theorem jf24RowAO : (Tryz.prog.stopsHeard) = true := by kernel_rfl
theorem jf25RowAO : (Tryz.prog.mayEnter) = true := by kernel_rfl
theorem jf26RowAO : ((Rows.fnAttrsOfRow.lifted == Tryz.prog.liftsFinal)) = true := by kernel_rfl
theorem jf27RowAO : ((Tryz.prog.make == some Rows.fnAttrsOfRow.make)) = true := by kernel_rfl
theorem jf29RowAO : ((Rows.fnAttrsOfRow.pinned == Rows.fnAttrsOfRow.pinnedBy)) = true := by kernel_rfl
theorem jf30RowAO : ((Rows.fnAttrsOfRow.veiled == (Tryz.f4.params.toList ++ Rows.fnAttrsOfSpec.plain.varTypes Tryz.prog ++ Tryz.f4.resultTypes.toList).any (Tryz.prog.veiledRec ·))) = true := by kernel_rfl
theorem jf31RowAO : (Rows.fnAttrsOfRow.veiledFits Tryz.prog Tryz.f4.params.toList (Tryz.f4.params.toList ++ Rows.fnAttrsOfSpec.plain.varTypes Tryz.prog ++ Tryz.f4.resultTypes.toList)) = true := by kernel_rfl
end Go.Proofs.YtmenakmafojpaaaGreatDoor
