/-
  Closing facts of a row, one theorem each.
-/
import Derived.Test.YtpmkkijamfgaeaaGreatDoorRB
import Derived.Test.YtpmkkijamfgaeaaGreatDoorCards
import Derived.Test.YtpmkkijamfgaeaaGreatDoorTie
import Derived.ProofKit
import Derived.LaidMore
import Derived.Lay
import Derived.OpenShut
import Derived.Stop.Joined
import Derived.SevenTiedAt
namespace Go.Proofs.YtpmkkijamfgaeaaGreatDoor
open Go.ChangeShapes Go.WideShapes Go.ChangeAt Go.RowKit
theorem jf12RowRR : ((Rows.fnReachOfRunRow.named == Tryz.prog.varsNamed 3)) = true := by kernel_rfl
theorem jf13RowRR : ((Rows.fnReachOfRunRow.maps == (Tryz.f3.params.toList ++ Rows.fnReachOfRunSpec.plain.varTypes Tryz.prog).any (Tryz.prog.mapsRec ·))) = true := by kernel_rfl
theorem jf14RowRR : ((Rows.fnReachOfRunRow.ifaces == (Tryz.f3.params.toList ++ Rows.fnReachOfRunSpec.plain.varTypes Tryz.prog).any (Tryz.prog.ifacesRec ·))) = true := by kernel_rfl
theorem jf15RowRR : ((Rows.fnReachOfRunRow.mapsOut == Tryz.prog.mapsAmong Tryz.f3.resultTypes.toList)) = true := by kernel_rfl
theorem jf16RowRR : ((Rows.fnReachOfRunRow.loops == (Tryz.f3.params.toList ++ Rows.fnReachOfRunSpec.plain.varTypes Tryz.prog).any (Tryz.prog.loopsFrom ·))) = true := by kernel_rfl
theorem jf17RowRR : ((Rows.fnReachOfRunRow.wideKeys == (Tryz.f3.params.toList ++ Rows.fnReachOfRunSpec.plain.varTypes Tryz.prog ++ Tryz.f3.resultTypes.toList).any (Tryz.prog.wideKeysFrom ·))) = true := by kernel_rfl
theorem jf18RowRR : (Rows.fnReachOfRunSpec.vars.all (Tryz.prog.varReadable ·)) = true := by kernel_rfl
theorem jf19RowRR : (Tryz.f3.resultTypes.all (fun t => Tryz.prog.readableRec t && decide (t < Tryz.prog.types.size))) = true := by kernel_rfl
theorem jf20RowRR : ((Rows.fnReachOfRunRow.ifacesOut == Tryz.f3.resultTypes.toList.any (Tryz.prog.ifacesRec ·))) = true := by kernel_rfl
theorem jf21RowRR : ((Rows.fnReachOfRunRow.loopsOut == Tryz.f3.resultTypes.toList.any (Tryz.prog.loopsFrom ·))) = true := by kernel_rfl
theorem jf22RowRR : ((Rows.fnReachOfRunRow.plainKeys == Tryz.prog.plainKeys)) = true := by kernel_rfl
theorem jf23RowRR : (Rows.fnReachOfRunRow.shortTexts.isNone) = true := by kernel_rfl
theorem jf24RowRR : (Tryz.prog.stopsHeard) = true := by kernel_rfl
theorem jf25RowRR : (Tryz.prog.mayEnter) = true := by kernel_rfl
theorem jf26RowRR : ((Rows.fnReachOfRunRow.lifted == Tryz.prog.liftsFinal)) = true := by kernel_rfl
theorem jf27RowRR : ((Tryz.prog.make == some Rows.fnReachOfRunRow.make)) = true := by kernel_rfl
theorem jf29RowRR : ((Rows.fnReachOfRunRow.pinned == Rows.fnReachOfRunRow.pinnedBy)) = true := by kernel_rfl
theorem jf30RowRR : ((Rows.fnReachOfRunRow.veiled == (Tryz.f3.params.toList ++ Rows.fnReachOfRunSpec.plain.varTypes Tryz.prog ++ Tryz.f3.resultTypes.toList).any (Tryz.prog.veiledRec ·))) = true := by kernel_rfl
theorem jf31RowRR : (Rows.fnReachOfRunRow.veiledFits Tryz.prog Tryz.f3.params.toList (Tryz.f3.params.toList ++ Rows.fnReachOfRunSpec.plain.varTypes Tryz.prog ++ Tryz.f3.resultTypes.toList)) = true := by kernel_rfl
end Go.Proofs.YtpmkkijamfgaeaaGreatDoor
