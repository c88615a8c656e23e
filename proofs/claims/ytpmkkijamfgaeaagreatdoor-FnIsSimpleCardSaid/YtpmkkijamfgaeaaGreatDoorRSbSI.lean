/-
  Closing facts of a row, one theorem each.
-/
import Derived.Test.YtpmkkijamfgaeaaGreatDoorRB
import Derived.Test.YtpmkkijamfgaeaaGreatDoorCards
import Derived.Test.YtpmkkijamfgaeaaGreatDoorTie
import Derived.ProofKit
import Derived.LaidMore
import Derived.Lay
import Derived.OpenShut
import Derived.Stop.Joined
import Derived.SevenTiedAt
namespace Go.Proofs.YtpmkkijamfgaeaaGreatDoor
open Go.ChangeShapes Go.WideShapes Go.ChangeAt Go.RowKit
theorem jf12RowSI : ((Rows.fnIsSimpleRow.named == Tryz.prog.varsNamed 4)) = true := by kernel_rfl
theorem jf13RowSI : ((Rows.fnIsSimpleRow.maps == (Tryz.f4.params.toList ++ Rows.fnIsSimpleSpec.plain.varTypes Tryz.prog).any (Tryz.prog.mapsRec ·))) = true := by kernel_rfl
theorem jf14RowSI : ((Rows.fnIsSimpleRow.ifaces == (Tryz.f4.params.toList ++ Rows.fnIsSimpleSpec.plain.varTypes Tryz.prog).any (Tryz.prog.ifacesRec ·))) = true := by kernel_rfl
theorem jf15RowSI : ((Rows.fnIsSimpleRow.mapsOut == Tryz.prog.mapsAmong Tryz.f4.resultTypes.toList)) = true := by kernel_rfl
theorem jf16RowSI : ((Rows.fnIsSimpleRow.loops == (Tryz.f4.params.toList ++ Rows.fnIsSimpleSpec.plain.varTypes Tryz.prog).any (Tryz.prog.loopsFrom ·))) = true := by kernel_rfl
theorem jf17RowSI : ((Rows.fnIsSimpleRow.wideKeys == (Tryz.f4.params.toList ++ Rows.fnIsSimpleSpec.plain.varTypes Tryz.prog ++ Tryz.f4.resultTypes.toList).any (Tryz.prog.wideKeysFrom ·))) = true := by kernel_rfl
theorem jf18RowSI : (Rows.fnIsSimpleSpec.vars.all (Tryz.prog.varReadable ·)) = true := by kernel_rfl
theorem jf19RowSI : (Tryz.f4.resultTypes.all (fun t => Tryz.prog.readableRec t && decide (t < Tryz.prog.types.size))) = true := by kernel_rfl
theorem jf20RowSI : ((Rows.fnIsSimpleRow.ifacesOut == Tryz.f4.resultTypes.toList.any (Tryz.prog.ifacesRec ·))) = true := by kernel_rfl
theorem jf21RowSI : ((Rows.fnIsSimpleRow.loopsOut == Tryz.f4.resultTypes.toList.any (Tryz.prog.loopsFrom ·))) = true := by kernel_rfl
theorem jf22RowSI : ((Rows.fnIsSimpleRow.plainKeys == Tryz.prog.plainKeys)) = true := by kernel_rfl
theorem jf23RowSI : (Rows.fnIsSimpleRow.shortTexts.isNone) = true := by kernel_rfl
theorem jf24RowSI : (Tryz.prog.stopsHeard) = true := by kernel_rfl
theorem jf25RowSI : (Tryz.prog.mayEnter) = true := by kernel_rfl
theorem jf26RowSI : ((Rows.fnIsSimpleRow.lifted == Tryz.prog.liftsFinal)) = true := by kernel_rfl
theorem jf27RowSI : ((Tryz.prog.make == some Rows.fnIsSimpleRow.make)) = true := by kernel_rfl
theorem jf29RowSI : ((Rows.fnIsSimpleRow.pinned == Rows.fnIsSimpleRow.pinnedBy)) = true := by kernel_rfl
theorem jf30RowSI : ((Rows.fnIsSimpleRow.veiled == (Tryz.f4.params.toList ++ Rows.fnIsSimpleSpec.plain.varTypes Tryz.prog ++ Tryz.f4.resultTypes.toList).any (Tryz.prog.veiledRec ·))) = true := by kernel_rfl
theorem jf31RowSI : (Rows.fnIsSimpleRow.veiledFits Tryz.prog Tryz.f4.params.toList (Tryz.f4.params.toList ++ Rows.fnIsSimpleSpec.plain.varTypes Tryz.prog ++ Tryz.f4.resultTypes.toList)) = true := by kernel_rfl
end Go.Proofs.YtpmkkijamfgaeaaGreatDoor
