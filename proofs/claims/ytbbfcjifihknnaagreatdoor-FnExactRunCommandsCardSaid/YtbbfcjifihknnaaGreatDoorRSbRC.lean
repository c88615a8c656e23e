/-
  Closing facts of a row, one theorem each.
-/
import Derived.Test.YtbbfcjifihknnaaGreatDoorRB
import Derived.Test.YtbbfcjifihknnaaGreatDoorCards
import Derived.Test.YtbbfcjifihknnaaGreatDoorTie
import Derived.ProofKit
import Derived.LaidMore
import Derived.Lay
import Derived.OpenShut
import Derived.Stop.Joined
import Derived.SevenTiedAt
namespace Go.Proofs.YtbbfcjifihknnaaGreatDoor
open Go.ChangeShapes Go.WideShapes Go.ChangeAt Go.RowKit
theorem jf12RowRC : ((Rows.fnExactRunCommandsRow.named == Tryz.prog.varsNamed 3)) = true := by kernel_rfl
theorem jf13RowRC : ((Rows.fnExactRunCommandsRow.maps == (Tryz.f3.params.toList ++ Rows.fnExactRunCommandsSpec.plain.varTypes Tryz.prog).any (Tryz.prog.mapsRec ·))) = true := by kernel_rfl
theorem jf14RowRC : ((Rows.fnExactRunCommandsRow.ifaces == (Tryz.f3.params.toList ++ Rows.fnExactRunCommandsSpec.plain.varTypes Tryz.prog).any (Tryz.prog.ifacesRec ·))) = true := by kernel_rfl
theorem jf15RowRC : ((Rows.fnExactRunCommandsRow.mapsOut == Tryz.prog.mapsAmong Tryz.f3.resultTypes.toList)) = true := by kernel_rfl
theorem jf16RowRC : ((Rows.fnExactRunCommandsRow.loops == (Tryz.f3.params.toList ++ Rows.fnExactRunCommandsSpec.plain.varTypes Tryz.prog).any (Tryz.prog.loopsFrom ·))) = true := by kernel_rfl
theorem jf17RowRC : ((Rows.fnExactRunCommandsRow.wideKeys == (Tryz.f3.params.toList ++ Rows.fnExactRunCommandsSpec.plain.varTypes Tryz.prog ++ Tryz.f3.resultTypes.toList).any (Tryz.prog.wideKeysFrom ·))) = true := by kernel_rfl
theorem jf18RowRC : (Rows.fnExactRunCommandsSpec.vars.all (Tryz.prog.varReadable ·)) = true := by kernel_rfl
theorem jf19RowRC : (Tryz.f3.resultTypes.all (fun t => Tryz.prog.readableRec t && decide (t < Tryz.prog.types.size))) = true := by kernel_rfl
theorem jf20RowRC : ((Rows.fnExactRunCommandsRow.ifacesOut == Tryz.f3.resultTypes.toList.any (Tryz.prog.ifacesRec ·))) = true := by kernel_rfl
theorem jf21RowRC : ((Rows.fnExactRunCommandsRow.loopsOut == Tryz.f3.resultTypes.toList.any (Tryz.prog.loopsFrom ·))) = true := by kernel_rfl
theorem jf22RowRC : ((Rows.fnExactRunCommandsRow.plainKeys == Tryz.prog.plainKeys)) = true := by kernel_rfl
theorem jf23RowRC : (Rows.fnExactRunCommandsRow.shortTexts.isNone) = true := by kernel_rfl
theorem jf24RowRC : (Tryz.prog.stopsHeard) = true := by kernel_rfl
theorem jf25RowRC : (Tryz.prog.mayEnter) = true := by kernel_rfl
theorem jf26RowRC : ((Rows.fnExactRunCommandsRow.lifted == Tryz.prog.liftsFinal)) = true := by kernel_rfl
theorem jf27RowRC : ((Tryz.prog.make == some Rows.fnExactRunCommandsRow.make)) = true := by kernel_rfl
theorem jf29RowRC : ((Rows.fnExactRunCommandsRow.pinned == Rows.fnExactRunCommandsRow.pinnedBy)) = true := by kernel_rfl
theorem jf30RowRC : ((Rows.fnExactRunCommandsRow.veiled == (Tryz.f3.params.toList ++ Rows.fnExactRunCommandsSpec.plain.varTypes Tryz.prog ++ Tryz.f3.resultTypes.toList).any (Tryz.prog.veiledRec ·))) = true := by kernel_rfl
theorem jf31RowRC : (Rows.fnExactRunCommandsRow.veiledFits Tryz.prog Tryz.f3.params.toList (Tryz.f3.params.toList ++ Rows.fnExactRunCommandsSpec.plain.varTypes Tryz.prog ++ Tryz.f3.resultTypes.toList)) = true := by kernel_rfl
end Go.Proofs.YtbbfcjifihknnaaGreatDoor
