/-
  Closing facts of a row, one theorem each.
-/
import Derived.Test.YtnlhpkbphdbknaaGreatDoorRB
import Derived.Test.YtnlhpkbphdbknaaGreatDoorCards
import Derived.Test.YtnlhpkbphdbknaaGreatDoorTie
import Derived.ProofKit
import Derived.LaidMore
import Derived.Lay
import Derived.OpenShut
import Derived.Stop.Joined
import Derived.SevenTiedAt
namespace Go.Proofs.YtnlhpkbphdbknaaGreatDoor
open Go.ChangeShapes Go.WideShapes Go.ChangeAt Go.RowKit
theorem jf12RowCC : ((Rows.fnRunCommandsCacheRow.named == Tryz.prog.varsNamed 6)) = true := by kernel_rfl
theorem jf13RowCC : ((Rows.fnRunCommandsCacheRow.maps == (Tryz.f6.params.toList ++ Rows.fnRunCommandsCacheSpec.plain.varTypes Tryz.prog).any (Tryz.prog.mapsRec ·))) = true := by kernel_rfl
theorem jf14RowCC : ((Rows.fnRunCommandsCacheRow.ifaces == (Tryz.f6.params.toList ++ Rows.fnRunCommandsCacheSpec.plain.varTypes Tryz.prog).any (Tryz.prog.ifacesRec ·))) = true := by kernel_rfl
theorem jf15RowCC : ((Rows.fnRunCommandsCacheRow.mapsOut == Tryz.prog.mapsAmong Tryz.f6.resultTypes.toList)) = true := by kernel_rfl
theorem jf16RowCC : ((Rows.fnRunCommandsCacheRow.loops == (Tryz.f6.params.toList ++ Rows.fnRunCommandsCacheSpec.plain.varTypes Tryz.prog).any (Tryz.prog.loopsFrom ·))) = true := by kernel_rfl
theorem jf17RowCC : ((Rows.fnRunCommandsCacheRow.wideKeys == (Tryz.f6.params.toList ++ Rows.fnRunCommandsCacheSpec.plain.varTypes Tryz.prog ++ Tryz.f6.resultTypes.toList).any (Tryz.prog.wideKeysFrom ·))) = true := by kernel_rfl
theorem jf18RowCC : (Rows.fnRunCommandsCacheSpec.vars.all (Tryz.prog.varReadable ·)) = true := by kernel_rfl
theorem jf19RowCC : (Tryz.f6.resultTypes.all (fun t => Tryz.prog.readableRec t && decide (t < Tryz.prog.types.size))) = true := by kernel_rfl
theorem jf20RowCC : ((Rows.fnRunCommandsCacheRow.ifacesOut == Tryz.f6.resultTypes.toList.any (Tryz.prog.ifacesRec ·))) = true := by kernel_rfl
theorem jf21RowCC : ((Rows.fnRunCommandsCacheRow.loopsOut == Tryz.f6.resultTypes.toList.any (Tryz.prog.loopsFrom ·))) = true := by kernel_rfl
theorem jf22RowCC : ((Rows.fnRunCommandsCacheRow.plainKeys == Tryz.prog.plainKeys)) = true := by kernel_rfl
theorem jf23RowCC : (Rows.fnRunCommandsCacheRow.shortTexts.isNone) = true := by kernel_rfl
theorem jf24RowCC : (Tryz.prog.stopsHeard) = true := by kernel_rfl
theorem jf25RowCC : (Tryz.prog.mayEnter) = true := by kernel_rfl
theorem jf26RowCC : ((Rows.fnRunCommandsCacheRow.lifted == Tryz.prog.liftsFinal)) = true := by kernel_rfl
theorem jf27RowCC : ((Tryz.prog.make == some Rows.fnRunCommandsCacheRow.make)) = true := by kernel_rfl
theorem jf29RowCC : ((Rows.fnRunCommandsCacheRow.pinned == Rows.fnRunCommandsCacheRow.pinnedBy)) = true := by kernel_rfl
theorem jf30RowCC : ((Rows.fnRunCommandsCacheRow.veiled == (Tryz.f6.params.toList ++ Rows.fnRunCommandsCacheSpec.plain.varTypes Tryz.prog ++ Tryz.f6.resultTypes.toList).any (Tryz.prog.veiledRec ·))) = true := by kernel_rfl
theorem jf31RowCC : (Rows.fnRunCommandsCacheRow.veiledFits Tryz.prog Tryz.f6.params.toList (Tryz.f6.params.toList ++ Rows.fnRunCommandsCacheSpec.plain.varTypes Tryz.prog ++ Tryz.f6.resultTypes.toList)) = true := by kernel_rfl
end Go.Proofs.YtnlhpkbphdbknaaGreatDoor
