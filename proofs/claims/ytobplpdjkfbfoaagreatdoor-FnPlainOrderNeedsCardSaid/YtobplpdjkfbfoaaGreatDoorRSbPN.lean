/-
  Closing facts of a row, one theorem each.
-/
import Derived.Test.YtobplpdjkfbfoaaGreatDoorRB
import Derived.Test.YtobplpdjkfbfoaaGreatDoorCards
import Derived.Test.YtobplpdjkfbfoaaGreatDoorTie
import Derived.ProofKit
import Derived.LaidMore
import Derived.Lay
import Derived.OpenShut
import Derived.Stop.Joined
import Derived.SevenTiedAt
namespace Go.Proofs.YtobplpdjkfbfoaaGreatDoor
open Go.ChangeShapes Go.WideShapes Go.ChangeAt Go.RowKit
theorem jf12RowPN : ((Rows.fnPlainOrderNeedsRow.named == Tryz.prog.varsNamed 5)) = true := by kernel_rfl
theorem jf13RowPN : ((Rows.fnPlainOrderNeedsRow.maps == (Tryz.f5.params.toList ++ Rows.fnPlainOrderNeedsSpec.plain.varTypes Tryz.prog).any (Tryz.prog.mapsRec ·))) = true := by kernel_rfl
theorem jf14RowPN : ((Rows.fnPlainOrderNeedsRow.ifaces == (Tryz.f5.params.toList ++ Rows.fnPlainOrderNeedsSpec.plain.varTypes Tryz.prog).any (Tryz.prog.ifacesRec ·))) = true := by kernel_rfl
theorem jf15RowPN : ((Rows.fnPlainOrderNeedsRow.mapsOut == Tryz.prog.mapsAmong Tryz.f5.resultTypes.toList)) = true := by kernel_rfl
theorem jf16RowPN : ((Rows.fnPlainOrderNeedsRow.loops == (Tryz.f5.params.toList ++ Rows.fnPlainOrderNeedsSpec.plain.varTypes Tryz.prog).any (Tryz.prog.loopsFrom ·))) = true := by kernel_rfl
theorem jf17RowPN : ((Rows.fnPlainOrderNeedsRow.wideKeys == (Tryz.f5.params.toList ++ Rows.fnPlainOrderNeedsSpec.plain.varTypes Tryz.prog ++ Tryz.f5.resultTypes.toList).any (Tryz.prog.wideKeysFrom ·))) = true := by kernel_rfl
theorem jf18RowPN : (Rows.fnPlainOrderNeedsSpec.vars.all (Tryz.prog.varReadable ·)) = true := by kernel_rfl
theorem jf19RowPN : (Tryz.f5.resultTypes.all (fun t => Tryz.prog.readableRec t && decide (t < Tryz.prog.types.size))) = true := by kernel_rfl
theorem jf20RowPN : ((Rows.fnPlainOrderNeedsRow.ifacesOut == Tryz.f5.resultTypes.toList.any (Tryz.prog.ifacesRec ·))) = true := by kernel_rfl
theorem jf21RowPN : ((Rows.fnPlainOrderNeedsRow.loopsOut == Tryz.f5.resultTypes.toList.any (Tryz.prog.loopsFrom ·))) = true := by kernel_rfl
theorem jf22RowPN : ((Rows.fnPlainOrderNeedsRow.plainKeys == Tryz.prog.plainKeys)) = true := by kernel_rfl
theorem jf23RowPN : (Rows.fnPlainOrderNeedsRow.shortTexts.isNone) = true := by kernel_rfl
theorem jf24RowPN : (Tryz.prog.stopsHeard) = true := by kernel_rfl
theorem jf25RowPN : (Tryz.prog.mayEnter) = true := by kernel_rfl
theorem jf26RowPN : ((Rows.fnPlainOrderNeedsRow.lifted == Tryz.prog.liftsFinal)) = true := by kernel_rfl
theorem jf27RowPN : ((Tryz.prog.make == some Rows.fnPlainOrderNeedsRow.make)) = true := by kernel_rfl
theorem jf29RowPN : ((Rows.fnPlainOrderNeedsRow.pinned == Rows.fnPlainOrderNeedsRow.pinnedBy)) = true := by kernel_rfl
theorem jf30RowPN : ((Rows.fnPlainOrderNeedsRow.veiled == (Tryz.f5.params.toList ++ Rows.fnPlainOrderNeedsSpec.plain.varTypes Tryz.prog ++ Tryz.f5.resultTypes.toList).any (Tryz.prog.veiledRec ·))) = true := by kernel_rfl
theorem jf31RowPN : (Rows.fnPlainOrderNeedsRow.veiledFits Tryz.prog Tryz.f5.params.toList (Tryz.f5.params.toList ++ Rows.fnPlainOrderNeedsSpec.plain.varTypes Tryz.prog ++ Tryz.f5.resultTypes.toList)) = true := by kernel_rfl
end Go.Proofs.YtobplpdjkfbfoaaGreatDoor
