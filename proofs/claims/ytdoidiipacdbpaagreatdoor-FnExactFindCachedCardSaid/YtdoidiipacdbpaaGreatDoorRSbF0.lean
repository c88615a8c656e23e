/-
  Closing facts of a row, one theorem each.
-/
import Derived.Test.YtdoidiipacdbpaaGreatDoorRB
import Derived.Test.YtdoidiipacdbpaaGreatDoorCards
import Derived.Test.YtdoidiipacdbpaaGreatDoorTie
import Derived.ProofKit
import Derived.LaidMore
import Derived.Lay
import Derived.OpenShut
import Derived.Stop.Joined
import Derived.SevenTiedAt
namespace Go.Proofs.YtdoidiipacdbpaaGreatDoor
open Go.ChangeShapes Go.WideShapes Go.ChangeAt Go.RowKit
theorem jf12RowF0 : ((Rows.fnExactFindCachedRow.named == Tryz.prog.varsNamed 3)) = true := by kernel_rfl
theorem jf13RowF0 : ((Rows.fnExactFindCachedRow.maps == (Tryz.f3.params.toList ++ Rows.fnExactFindCachedSpec.plain.varTypes Tryz.prog).any (Tryz.prog.mapsRec ·))) = true := by kernel_rfl
theorem jf14RowF0 : ((Rows.fnExactFindCachedRow.ifaces == (Tryz.f3.params.toList ++ Rows.fnExactFindCachedSpec.plain.varTypes Tryz.prog).any (Tryz.prog.ifacesRec ·))) = true := by kernel_rfl
theorem jf15RowF0 : ((Rows.fnExactFindCachedRow.mapsOut == Tryz.prog.mapsAmong Tryz.f3.resultTypes.toList)) = true := by kernel_rfl
theorem jf16RowF0 : ((Rows.fnExactFindCachedRow.loops == (Tryz.f3.params.toList ++ Rows.fnExactFindCachedSpec.plain.varTypes Tryz.prog).any (Tryz.prog.loopsFrom ·))) = true := by kernel_rfl
theorem jf17RowF0 : ((Rows.fnExactFindCachedRow.wideKeys == (Tryz.f3.params.toList ++ Rows.fnExactFindCachedSpec.plain.varTypes Tryz.prog ++ Tryz.f3.resultTypes.toList).any (Tryz.prog.wideKeysFrom ·))) = true := by kernel_rfl
theorem jf18RowF0 : (Rows.fnExactFindCachedSpec.vars.all (Tryz.prog.varReadable ·)) = true := by kernel_rfl
theorem jf19RowF0 : (Tryz.f3.resultTypes.all (fun t => Tryz.prog.readableRec t && decide (t < Tryz.prog.types.size))) = true := by kernel_rfl
theorem jf20RowF0 : ((Rows.fnExactFindCachedRow.ifacesOut == Tryz.f3.resultTypes.toList.any (Tryz.prog.ifacesRec ·))) = true := by kernel_rfl
theorem jf21RowF0 : ((Rows.fnExactFindCachedRow.loopsOut == Tryz.f3.resultTypes.toList.any (Tryz.prog.loopsFrom ·))) = true := by kernel_rfl
theorem jf22RowF0 : ((Rows.fnExactFindCachedRow.plainKeys == Tryz.prog.plainKeys)) = true := by kernel_rfl
theorem jf23RowF0 : (Rows.fnExactFindCachedRow.shortTexts.isNone) = true := by kernel_rfl
theorem jf24RowF0 : (Tryz.prog.stopsHeard) = true := by kernel_rfl
theorem jf25RowF0 : (Tryz.prog.mayEnter) = true := by kernel_rfl
theorem jf26RowF0 : ((Rows.fnExactFindCachedRow.lifted == Tryz.prog.liftsFinal)) = true := by kernel_rfl
theorem jf27RowF0 : ((Tryz.prog.make == some Rows.fnExactFindCachedRow.make)) = true := by kernel_rfl
theorem jf29RowF0 : ((Rows.fnExactFindCachedRow.pinned == Rows.fnExactFindCachedRow.pinnedBy)) = true := by kernel_rfl
theorem jf30RowF0 : ((Rows.fnExactFindCachedRow.veiled == (Tryz.f3.params.toList ++ Rows.fnExactFindCachedSpec.plain.varTypes Tryz.prog ++ Tryz.f3.resultTypes.toList).any (Tryz.prog.veiledRec ·))) = true := by kernel_rfl
theorem jf31RowF0 : (Rows.fnExactFindCachedRow.veiledFits Tryz.prog Tryz.f3.params.toList (Tryz.f3.params.toList ++ Rows.fnExactFindCachedSpec.plain.varTypes Tryz.prog ++ Tryz.f3.resultTypes.toList)) = true := by kernel_rfl
end Go.Proofs.YtdoidiipacdbpaaGreatDoor
