/-
  Closing facts of a row, one theorem each.
-/
import Derived.Test.YtpmkkijamfgaeaaGreatDoorRB
import Derived.Test.YtpmkkijamfgaeaaGreatDoorCards
import Derived.Test.YtpmkkijamfgaeaaGreatDoorTie
import Derived.ProofKit
import Derived.LaidMore
import Derived.Lay
import Derived.OpenShut
import Derived.Stop.Joined
import Derived.SevenTiedAt
namespace Go.Proofs.YtpmkkijamfgaeaaGreatDoor
open Go.ChangeShapes Go.WideShapes Go.ChangeAt Go.RowKit
theorem jf12RowPO : ((Rows.fnPlainOrderRow.named == Tryz.prog.varsNamed 5)) = true := by kernel_rfl
theorem jf13RowPO : ((Rows.fnPlainOrderRow.maps == (Tryz.f5.params.toList ++ Rows.fnPlainOrderSpec.plain.varTypes Tryz.prog).any (Tryz.prog.mapsRec ·))) = true := by kernel_rfl
theorem jf14RowPO : ((Rows.fnPlainOrderRow.ifaces == (Tryz.f5.params.toList ++ Rows.fnPlainOrderSpec.plain.varTypes Tryz.prog).any (Tryz.prog.ifacesRec ·))) = true := by kernel_rfl
theorem jf15RowPO : ((Rows.fnPlainOrderRow.mapsOut == Tryz.prog.mapsAmong Tryz.f5.resultTypes.toList)) = true := by kernel_rfl
theorem jf16RowPO : ((Rows.fnPlainOrderRow.loops == (Tryz.f5.params.toList ++ Rows.fnPlainOrderSpec.plain.varTypes Tryz.prog).any (Tryz.prog.loopsFrom ·))) = true := by kernel_rfl
theorem jf17RowPO : ((Rows.fnPlainOrderRow.wideKeys == (Tryz.f5.params.toList ++ Rows.fnPlainOrderSpec.plain.varTypes Tryz.prog ++ Tryz.f5.resultTypes.toList).any (Tryz.prog.wideKeysFrom ·))) = true := by kernel_rfl
theorem jf18RowPO : (Rows.fnPlainOrderSpec.vars.all (Tryz.prog.varReadable ·)) = true := by kernel_rfl
theorem jf19RowPO : (Tryz.f5.resultTypes.all (fun t => Tryz.prog.readableRec t && decide (t < Tryz.prog.types.size))) = true := by kernel_rfl
theorem jf20RowPO : ((Rows.fnPlainOrderRow.ifacesOut == Tryz.f5.resultTypes.toList.any (Tryz.prog.ifacesRec ·))) = true := by kernel_rfl
theorem jf21RowPO : ((Rows.fnPlainOrderRow.loopsOut == Tryz.f5.resultTypes.toList.any (Tryz.prog.loopsFrom ·))) = true := by kernel_rfl
theorem jf22RowPO : ((Rows.fnPlainOrderRow.plainKeys == Tryz.prog.plainKeys)) = true := by kernel_rfl
theorem jf23RowPO : (Rows.fnPlainOrderRow.shortTexts.isNone) = true := by kernel_rfl
theorem jf24RowPO : (Tryz.prog.stopsHeard) = true := by kernel_rfl
theorem jf25RowPO : (Tryz.prog.mayEnter) = true := by kernel_rfl
theorem jf26RowPO : ((Rows.fnPlainOrderRow.lifted == Tryz.prog.liftsFinal)) = true := by kernel_rfl
theorem jf27RowPO : ((Tryz.prog.make == some Rows.fnPlainOrderRow.make)) = true := by kernel_rfl
theorem jf29RowPO : ((Rows.fnPlainOrderRow.pinned == Rows.fnPlainOrderRow.pinnedBy)) = true := by kernel_rfl
theorem jf30RowPO : ((Rows.fnPlainOrderRow.veiled == (Tryz.f5.params.toList ++ Rows.fnPlainOrderSpec.plain.varTypes Tryz.prog ++ Tryz.f5.resultTypes.toList).any (Tryz.prog.veiledRec ·))) = true := by kernel_rfl
theorem jf31RowPO : (Rows.fnPlainOrderRow.veiledFits Tryz.prog Tryz.f5.params.toList (Tryz.f5.params.toList ++ Rows.fnPlainOrderSpec.plain.varTypes Tryz.prog ++ Tryz.f5.resultTypes.toList)) = true := by kernel_rfl
end Go.Proofs.YtpmkkijamfgaeaaGreatDoor
