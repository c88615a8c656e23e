/-
  Closing facts of a row, one theorem each.
-/
import Derived.Test.YtmenakmafojpaaaGreatDoorRB
import Derived.Test.YtmenakmafojpaaaGreatDoorCards
import Derived.Test.YtmenakmafojpaaaGreatDoorTie
import Derived.ProofKit
import Derived.LaidMore
import Derived.Lay
import Derived.OpenShut
import Derived.Stop.Joined
import Derived.SevenTiedAt
namespace Go.Proofs.YtmenakmafojpaaaGreatDoor
open Go.ChangeShapes Go.WideShapes Go.ChangeAt Go.RowKit
theorem jf12RowIO : ((Rows.fnImportOneRow.named == Tryz.prog.varsNamed 5)) = true := by kernel_rfl
theorem jf13RowIO : ((Rows.fnImportOneRow.maps == (Tryz.f5.params.toList ++ Rows.fnImportOneSpec.plain.varTypes Tryz.prog).any (Tryz.prog.mapsRec ·))) = true := by kernel_rfl
theorem jf14RowIO : ((Rows.fnImportOneRow.ifaces == (Tryz.f5.params.toList ++ Rows.fnImportOneSpec.plain.varTypes Tryz.prog).any (Tryz.prog.ifacesRec ·))) = true := by kernel_rfl
theorem jf15RowIO : ((Rows.fnImportOneRow.mapsOut == Tryz.prog.mapsAmong Tryz.f5.resultTypes.toList)) = true := by kernel_rfl
theorem jf16RowIO : ((Rows.fnImportOneRow.loops == (Tryz.f5.params.toList ++ Rows.fnImportOneSpec.plain.varTypes Tryz.prog).any (Tryz.prog.loopsFrom ·))) = true := by kernel_rfl
theorem jf17RowIO : ((Rows.fnImportOneRow.wideKeys == (Tryz.f5.params.toList ++ Rows.fnImportOneSpec.plain.varTypes Tryz.prog ++ Tryz.f5.resultTypes.toList).any (Tryz.prog.wideKeysFrom ·))) = true := by kernel_rfl
theorem jf18RowIO : (Rows.fnImportOneSpec.vars.all (Tryz.prog.varReadable ·)) = true := by kernel_rfl
theorem jf19RowIO : (Tryz.f5.resultTypes.all (fun t => Tryz.prog.readableRec t && decide (t < Tryz.prog.types.size))) = true := by kernel_rfl
theorem jf20RowIO : ((Rows.fnImportOneRow.ifacesOut == Tryz.f5.resultTypes.toList.any (Tryz.prog.ifacesRec ·))) = true := by kernel_rfl
theorem jf21RowIO : ((Rows.fnImportOneRow.loopsOut == Tryz.f5.resultTypes.toList.any (Tryz.prog.loopsFrom ·))) = true := by kernel_rfl
theorem jf22RowIO : ((Rows.fnImportOneRow.plainKeys == Tryz.prog.plainKeys)) = true := by kernel_rfl
theorem jf23RowIO : (Rows.fnImportOneRow.shortTexts.isNone) = true := by kernel_rfl
theorem jf24RowIO : (Tryz.prog.stopsHeard) = true := by kernel_rfl
theorem jf25RowIO : (Tryz.prog.mayEnter) = true := by kernel_rfl
theorem jf26RowIO : ((Rows.fnImportOneRow.lifted == Tryz.prog.liftsFinal)) = true := by kernel_rfl
theorem jf27RowIO : ((Tryz.prog.make == some Rows.fnImportOneRow.make)) = true := by kernel_rfl
theorem jf29RowIO : ((Rows.fnImportOneRow.pinned == Rows.fnImportOneRow.pinnedBy)) = true := by kernel_rfl
theorem jf30RowIO : ((Rows.fnImportOneRow.veiled == (Tryz.f5.params.toList ++ Rows.fnImportOneSpec.plain.varTypes Tryz.prog ++ Tryz.f5.resultTypes.toList).any (Tryz.prog.veiledRec ·))) = true := by kernel_rfl
theorem jf31RowIO : (Rows.fnImportOneRow.veiledFits Tryz.prog Tryz.f5.params.toList (Tryz.f5.params.toList ++ Rows.fnImportOneSpec.plain.varTypes Tryz.prog ++ Tryz.f5.resultTypes.toList)) = true := by kernel_rfl
end Go.Proofs.YtmenakmafojpaaaGreatDoor
