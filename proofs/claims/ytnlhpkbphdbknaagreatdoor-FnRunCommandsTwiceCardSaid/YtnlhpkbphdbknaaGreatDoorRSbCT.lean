/-
  Closing facts of a row, one theorem each.
-/
import Derived.Test.YtnlhpkbphdbknaaGreatDoorRB
import Derived.Test.YtnlhpkbphdbknaaGreatDoorCards
import Derived.Test.YtnlhpkbphdbknaaGreatDoorTie
import Derived.ProofKit
import Derived.LaidMore
import Derived.Lay
import Derived.OpenShut
import Derived.Stop.Joined
import Derived.SevenTiedAt
namespace Go.Proofs.YtnlhpkbphdbknaaGreatDoor
open Go.ChangeShapes Go.WideShapes Go.ChangeAt Go.RowKit
theorem jf12RowCT : ((Rows.fnRunCommandsTwiceRow.named == Tryz.prog.varsNamed 4)) = true := by kernel_rfl
theorem jf13RowCT : ((Rows.fnRunCommandsTwiceRow.maps == (Tryz.f4.params.toList ++ Rows.fnRunCommandsTwiceSpec.plain.varTypes Tryz.prog).any (Tryz.prog.mapsRec ·))) = true := by kernel_rfl
theorem jf14RowCT : ((Rows.fnRunCommandsTwiceRow.ifaces == (Tryz.f4.params.toList ++ Rows.fnRunCommandsTwiceSpec.plain.varTypes Tryz.prog).any (Tryz.prog.ifacesRec ·))) = true := by kernel_rfl
theorem jf15RowCT : ((Rows.fnRunCommandsTwiceRow.mapsOut == Tryz.prog.mapsAmong Tryz.f4.resultTypes.toList)) = true := by kernel_rfl
theorem jf16RowCT : ((Rows.fnRunCommandsTwiceRow.loops == (Tryz.f4.params.toList ++ Rows.fnRunCommandsTwiceSpec.plain.varTypes Tryz.prog).any (Tryz.prog.loopsFrom ·))) = true := by kernel_rfl
theorem jf17RowCT : ((Rows.fnRunCommandsTwiceRow.wideKeys == (Tryz.f4.params.toList ++ Rows.fnRunCommandsTwiceSpec.plain.varTypes Tryz.prog ++ Tryz.f4.resultTypes.toList).any (Tryz.prog.wideKeysFrom ·))) = true := by kernel_rfl
theorem jf18RowCT : (Rows.fnRunCommandsTwiceSpec.vars.all (Tryz.prog.varReadable ·)) = true := by kernel_rfl
theorem jf19RowCT : (Tryz.f4.resultTypes.all (fun t => Tryz.prog.readableRec t && decide (t < Tryz.prog.types.size))) = true := by kernel_rfl
theorem jf20RowCT : ((Rows.fnRunCommandsTwiceRow.ifacesOut == Tryz.f4.resultTypes.toList.any (Tryz.prog.ifacesRec ·))) = true := by kernel_rfl
theorem jf21RowCT : ((Rows.fnRunCommandsTwiceRow.loopsOut == Tryz.f4.resultTypes.toList.any (Tryz.prog.loopsFrom ·))) = true := by kernel_rfl
theorem jf22RowCT : ((Rows.fnRunCommandsTwiceRow.plainKeys == Tryz.prog.plainKeys)) = true := by kernel_rfl
theorem jf23RowCT : (Rows.fnRunCommandsTwiceRow.shortTexts.isNone) = true := by kernel_rfl
theorem jf24RowCT : (Tryz.prog.stopsHeard) = true := by kernel_rfl
theorem jf25RowCT : (Tryz.prog.mayEnter) = true := by kernel_rfl
theorem jf26RowCT : ((Rows.fnRunCommandsTwiceRow.lifted == Tryz.prog.liftsFinal)) = true := by kernel_rfl
theorem jf27RowCT : ((Tryz.prog.make == some Rows.fnRunCommandsTwiceRow.make)) = true := by kernel_rfl
theorem jf29RowCT : ((Rows.fnRunCommandsTwiceRow.pinned == Rows.fnRunCommandsTwiceRow.pinnedBy)) = true := by kernel_rfl
theorem jf30RowCT : ((Rows.fnRunCommandsTwiceRow.veiled == (Tryz.f4.params.toList ++ Rows.fnRunCommandsTwiceSpec.plain.varTypes Tryz.prog ++ Tryz.f4.resultTypes.toList).any (Tryz.prog.veiledRec ·))) = true := by kernel_rfl
theorem jf31RowCT : (Rows.fnRunCommandsTwiceRow.veiledFits Tryz.prog Tryz.f4.params.toList (Tryz.f4.params.toList ++ Rows.fnRunCommandsTwiceSpec.plain.varTypes Tryz.prog ++ Tryz.f4.resultTypes.toList)) = true := by kernel_rfl
end Go.Proofs.YtnlhpkbphdbknaaGreatDoor
