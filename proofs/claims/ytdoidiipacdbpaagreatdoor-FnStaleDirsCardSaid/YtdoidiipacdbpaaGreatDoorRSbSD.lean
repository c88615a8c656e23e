/-
  Closing facts of a row, one theorem each.
-/
import Derived.Test.YtdoidiipacdbpaaGreatDoorRB
import Derived.Test.YtdoidiipacdbpaaGreatDoorCards
import Derived.Test.YtdoidiipacdbpaaGreatDoorTie
import Derived.ProofKit
import Derived.LaidMore
import Derived.Lay
import Derived.OpenShut
import Derived.Stop.Joined
import Derived.SevenTiedAt
namespace Go.Proofs.YtdoidiipacdbpaaGreatDoor
open Go.ChangeShapes Go.WideShapes Go.ChangeAt Go.RowKit
theorem jf12RowSD : ((Rows.fnStaleDirsRow.named == Tryz.prog.varsNamed 7)) = true := by kernel_rfl
theorem jf13RowSD : ((Rows.fnStaleDirsRow.maps == (Tryz.f7.params.toList ++ Rows.fnStaleDirsSpec.plain.varTypes Tryz.prog).any (Tryz.prog.mapsRec ·))) = true := by kernel_rfl
theorem jf14RowSD : ((Rows.fnStaleDirsRow.ifaces == (Tryz.f7.params.toList ++ Rows.fnStaleDirsSpec.plain.varTypes Tryz.prog).any (Tryz.prog.ifacesRec ·))) = true := by kernel_rfl
theorem jf15RowSD : ((Rows.fnStaleDirsRow.mapsOut == Tryz.prog.mapsAmong Tryz.f7.resultTypes.toList)) = true := by kernel_rfl
theorem jf16RowSD : ((Rows.fnStaleDirsRow.loops == (Tryz.f7.params.toList ++ Rows.fnStaleDirsSpec.plain.varTypes Tryz.prog).any (Tryz.prog.loopsFrom ·))) = true := by kernel_rfl
theorem jf17RowSD : ((Rows.fnStaleDirsRow.wideKeys == (Tryz.f7.params.toList ++ Rows.fnStaleDirsSpec.plain.varTypes Tryz.prog ++ Tryz.f7.resultTypes.toList).any (Tryz.prog.wideKeysFrom ·))) = true := by kernel_rfl
theorem jf18RowSD : (Rows.fnStaleDirsSpec.vars.all (Tryz.prog.varReadable ·)) = true := by kernel_rfl
theorem jf19RowSD : (Tryz.f7.resultTypes.all (fun t => Tryz.prog.readableRec t && decide (t < Tryz.prog.types.size))) = true := by kernel_rfl
theorem jf20RowSD : ((Rows.fnStaleDirsRow.ifacesOut == Tryz.f7.resultTypes.toList.any (Tryz.prog.ifacesRec ·))) = true := by kernel_rfl
theorem jf21RowSD : ((Rows.fnStaleDirsRow.loopsOut == Tryz.f7.resultTypes.toList.any (Tryz.prog.loopsFrom ·))) = true := by kernel_rfl
theorem jf22RowSD : ((Rows.fnStaleDirsRow.plainKeys == Tryz.prog.plainKeys)) = true := by kernel_rfl
theorem jf23RowSD : (Rows.fnStaleDirsRow.shortTexts.isNone) = true := by kernel_rfl
theorem jf24RowSD : (Tryz.prog.stopsHeard) = true := by kernel_rfl
theorem jf25RowSD : (Tryz.prog.mayEnter) = true := by kernel_rfl
theorem jf26RowSD : ((Rows.fnStaleDirsRow.lifted == Tryz.prog.liftsFinal)) = true := by kernel_rfl
theorem jf27RowSD : ((Tryz.prog.make == some Rows.fnStaleDirsRow.make)) = true := by kernel_rfl
theorem jf29RowSD : ((Rows.fnStaleDirsRow.pinned == Rows.fnStaleDirsRow.pinnedBy)) = true := by kernel_rfl
theorem jf30RowSD : ((Rows.fnStaleDirsRow.veiled == (Tryz.f7.params.toList ++ Rows.fnStaleDirsSpec.plain.varTypes Tryz.prog ++ Tryz.f7.resultTypes.toList).any (Tryz.prog.veiledRec ·))) = true := by kernel_rfl
theorem jf31RowSD : (Rows.fnStaleDirsRow.veiledFits Tryz.prog Tryz.f7.params.toList (Tryz.f7.params.toList ++ Rows.fnStaleDirsSpec.plain.varTypes Tryz.prog ++ Tryz.f7.resultTypes.toList)) = true := by kernel_rfl
end Go.Proofs.YtdoidiipacdbpaaGreatDoor
