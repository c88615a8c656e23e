/-
  Closing facts of a row, one theorem each.
-/
import Derived.Test.YtoomehfflopakaaGreatDoorTB
import Derived.Test.YtoomehfflopakaaGreatDoorCards
import Derived.Test.YtoomehfflopakaaGreatDoorTie
import Derived.ProofKit
import Derived.LaidMore
import Derived.Lay
import Derived.OpenShut
import Derived.Stop.Joined
import Derived.SevenTiedAt
namespace Go.Proofs.YtoomehfflopakaaGreatDoor
open Go.ChangeShapes Go.WideShapes Go.ChangeAt Go.RowKit
theorem jf12RowFX : ((Rows.fnExactFillsOfRow.named == Tryz.prog.varsNamed 3)) = true := by kernel_rfl
theorem jf13RowFX : ((Rows.fnExactFillsOfRow.maps == (Tryz.f3.params.toList ++ Rows.fnExactFillsOfSpec.plain.varTypes Tryz.prog).any (Tryz.prog.mapsRec ·))) = true := by kernel_rfl
theorem jf14RowFX : ((Rows.fnExactFillsOfRow.ifaces == (Tryz.f3.params.toList ++ Rows.fnExactFillsOfSpec.plain.varTypes Tryz.prog).any (Tryz.prog.ifacesRec ·))) = true := by kernel_rfl
theorem jf15RowFX : ((Rows.fnExactFillsOfRow.mapsOut == Tryz.prog.mapsAmong Tryz.f3.resultTypes.toList)) = true := by kernel_rfl
theorem jf16RowFX : ((Rows.fnExactFillsOfRow.loops == (Tryz.f3.params.toList ++ Rows.fnExactFillsOfSpec.plain.varTypes Tryz.prog).any (Tryz.prog.loopsFrom ·))) = true := by kernel_rfl
theorem jf17RowFX : ((Rows.fnExactFillsOfRow.wideKeys == (Tryz.f3.params.toList ++ Rows.fnExactFillsOfSpec.plain.varTypes Tryz.prog ++ Tryz.f3.resultTypes.toList).any (Tryz.prog.wideKeysFrom ·))) = true := by kernel_rfl
theorem jf18RowFX : (Rows.fnExactFillsOfSpec.vars.all (Tryz.prog.varReadable ·)) = true := by kernel_rfl
theorem jf19RowFX : (Tryz.f3.resultTypes.all (fun t => Tryz.prog.readableRec t && decide (t < Tryz.prog.types.size))) = true := by kernel_rfl
theorem jf20RowFX : ((Rows.fnExactFillsOfRow.ifacesOut == Tryz.f3.resultTypes.toList.any (Tryz.prog.ifacesRec ·))) = true := by kernel_rfl
theorem jf21RowFX : ((Rows.fnExactFillsOfRow.loopsOut == Tryz.f3.resultTypes.toList.any (Tryz.prog.loopsFrom ·))) = true := by kernel_rfl
theorem jf22RowFX : ((Rows.fnExactFillsOfRow.plainKeys == Tryz.prog.plainKeys)) = true := by kernel_rfl
theorem jf23RowFX : (Rows.fnExactFillsOfRow.shortTexts.isNone) = true := by kernel_rfl
theorem jf24RowFX : (Tryz.prog.stopsHeard) = true := by kernel_rfl
theorem jf25RowFX : (Tryz.prog.mayEnter) = true := by kernel_rfl
theorem jf26RowFX : ((Rows.fnExactFillsOfRow.lifted == Tryz.prog.liftsFinal)) = true := by kernel_rfl
theorem jf27RowFX : ((Tryz.prog.make == some Rows.fnExactFillsOfRow.make)) = true := by kernel_rfl
theorem jf29RowFX : ((Rows.fnExactFillsOfRow.pinned == Rows.fnExactFillsOfRow.pinnedBy)) = true := by kernel_rfl
theorem jf30RowFX : ((Rows.fnExactFillsOfRow.veiled == (Tryz.f3.params.toList ++ Rows.fnExactFillsOfSpec.plain.varTypes Tryz.prog ++ Tryz.f3.resultTypes.toList).any (Tryz.prog.veiledRec ·))) = true := by kernel_rfl
theorem jf31RowFX : (Rows.fnExactFillsOfRow.veiledFits Tryz.prog Tryz.f3.params.toList (Tryz.f3.params.toList ++ Rows.fnExactFillsOfSpec.plain.varTypes Tryz.prog ++ Tryz.f3.resultTypes.toList)) = true := by kernel_rfl
end Go.Proofs.YtoomehfflopakaaGreatDoor
