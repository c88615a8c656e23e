/-
  Closing facts of a row, one theorem each.
-/
import Derived.Test.YtmenakmafojpaaaGreatDoorRB
import Derived.Test.YtmenakmafojpaaaGreatDoorCards
import Derived.Test.YtmenakmafojpaaaGreatDoorTie
import Derived.ProofKit
import Derived.LaidMore
import Derived.Lay
import Derived.OpenShut
import Derived.Stop.Joined
import Derived.SevenTiedAt
namespace Go.Proofs.YtmenakmafojpaaaGreatDoor
open Go.ChangeShapes Go.WideShapes Go.ChangeAt Go.RowKit
theorem jf12RowIM : ((Rows.fnImportOneMissingRow.named == Tryz.prog.varsNamed 6)) = true := by kernel_rfl
theorem jf13RowIM : ((Rows.fnImportOneMissingRow.maps == (Tryz.f6.params.toList ++ Rows.fnImportOneMissingSpec.plain.varTypes Tryz.prog).any (Tryz.prog.mapsRec ·))) = true := by kernel_rfl
theorem jf14RowIM : ((Rows.fnImportOneMissingRow.ifaces == (Tryz.f6.params.toList ++ Rows.fnImportOneMissingSpec.plain.varTypes Tryz.prog).any (Tryz.prog.ifacesRec ·))) = true := by kernel_rfl
theorem jf15RowIM : ((Rows.fnImportOneMissingRow.mapsOut == Tryz.prog.mapsAmong Tryz.f6.resultTypes.toList)) = true := by kernel_rfl
theorem jf16RowIM : ((Rows.fnImportOneMissingRow.loops == (Tryz.f6.params.toList ++ Rows.fnImportOneMissingSpec.plain.varTypes Tryz.prog).any (Tryz.prog.loopsFrom ·))) = true := by kernel_rfl
theorem jf17RowIM : ((Rows.fnImportOneMissingRow.wideKeys == (Tryz.f6.params.toList ++ Rows.fnImportOneMissingSpec.plain.varTypes Tryz.prog ++ Tryz.f6.resultTypes.toList).any (Tryz.prog.wideKeysFrom ·))) = true := by kernel_rfl
theorem jf18RowIM : (Rows.fnImportOneMissingSpec.vars.all (Tryz.prog.varReadable ·)) = true := by kernel_rfl
theorem jf19RowIM : (Tryz.f6.resultTypes.all (fun t => Tryz.prog.readableRec t && decide (t < Tryz.prog.types.size))) = true := by kernel_rfl
theorem jf20RowIM : ((Rows.fnImportOneMissingRow.ifacesOut == Tryz.f6.resultTypes.toList.any (Tryz.prog.ifacesRec ·))) = true := by kernel_rfl
theorem jf21RowIM : ((Rows.fnImportOneMissingRow.loopsOut == Tryz.f6.resultTypes.toList.any (Tryz.prog.loopsFrom ·))) = true := by kernel_rfl
theorem jf22RowIM : ((Rows.fnImportOneMissingRow.plainKeys == Tryz.prog.plainKeys)) = true := by kernel_rfl
theorem jf23RowIM : (Rows.fnImportOneMissingRow.shortTexts.isNone) = true := by kernel_rfl
theorem jf24RowIM : (Tryz.prog.stopsHeard) = true := by kernel_rfl
theorem jf25RowIM : (Tryz.prog.mayEnter) = true := by kernel_rfl
theorem jf26RowIM : ((Rows.fnImportOneMissingRow.lifted == Tryz.prog.liftsFinal)) = true := by kernel_rfl
theorem jf27RowIM : ((Tryz.prog.make == some Rows.fnImportOneMissingRow.make)) = true := by kernel_rfl
theorem jf29RowIM : ((Rows.fnImportOneMissingRow.pinned == Rows.fnImportOneMissingRow.pinnedBy)) = true := by kernel_rfl
theorem jf30RowIM : ((Rows.fnImportOneMissingRow.veiled == (Tryz.f6.params.toList ++ Rows.fnImportOneMissingSpec.plain.varTypes Tryz.prog ++ Tryz.f6.resultTypes.toList).any (Tryz.prog.veiledRec ·))) = true := by kernel_rfl
theorem jf31RowIM : (Rows.fnImportOneMissingRow.veiledFits Tryz.prog Tryz.f6.params.toList (Tryz.f6.params.toList ++ Rows.fnImportOneMissingSpec.plain.varTypes Tryz.prog ++ Tryz.f6.resultTypes.toList)) = true := by kernel_rfl
end Go.Proofs.YtmenakmafojpaaaGreatDoor
