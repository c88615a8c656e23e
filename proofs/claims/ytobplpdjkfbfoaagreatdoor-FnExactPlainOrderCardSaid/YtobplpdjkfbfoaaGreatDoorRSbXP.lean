/-
  Closing facts of a row, one theorem each.
-/
import Derived.Test.YtobplpdjkfbfoaaGreatDoorRB
import Derived.Test.YtobplpdjkfbfoaaGreatDoorCards
import Derived.Test.YtobplpdjkfbfoaaGreatDoorTie
import Derived.ProofKit
import Derived.LaidMore
import Derived.Lay
import Derived.OpenShut
import Derived.Stop.Joined
import Derived.SevenTiedAt
namespace Go.Proofs.YtobplpdjkfbfoaaGreatDoor
open Go.ChangeShapes Go.WideShapes Go.ChangeAt Go.RowKit
theorem jf12RowXP : ((Rows.fnExactPlainOrderRow.named == Tryz.prog.varsNamed 6)) = true := by kernel_rfl
theorem jf13RowXP : ((Rows.fnExactPlainOrderRow.maps == (Tryz.f6.params.toList ++ Rows.fnExactPlainOrderSpec.plain.varTypes Tryz.prog).any (Tryz.prog.mapsRec ·))) = true := by kernel_rfl
theorem jf14RowXP : ((Rows.fnExactPlainOrderRow.ifaces == (Tryz.f6.params.toList ++ Rows.fnExactPlainOrderSpec.plain.varTypes Tryz.prog).any (Tryz.prog.ifacesRec ·))) = true := by kernel_rfl
theorem jf15RowXP : ((Rows.fnExactPlainOrderRow.mapsOut == Tryz.prog.mapsAmong Tryz.f6.resultTypes.toList)) = true := by kernel_rfl
theorem jf16RowXP : ((Rows.fnExactPlainOrderRow.loops == (Tryz.f6.params.toList ++ Rows.fnExactPlainOrderSpec.plain.varTypes Tryz.prog).any (Tryz.prog.loopsFrom ·))) = true := by kernel_rfl
theorem jf17RowXP : ((Rows.fnExactPlainOrderRow.wideKeys == (Tryz.f6.params.toList ++ Rows.fnExactPlainOrderSpec.plain.varTypes Tryz.prog ++ Tryz.f6.resultTypes.toList).any (Tryz.prog.wideKeysFrom ·))) = true := by kernel_rfl
theorem jf18RowXP : (Rows.fnExactPlainOrderSpec.vars.all (Tryz.prog.varReadable ·)) = true := by kernel_rfl
theorem jf19RowXP : (Tryz.f6.resultTypes.all (fun t => Tryz.prog.readableRec t && decide (t < Tryz.prog.types.size))) = true := by kernel_rfl
theorem jf20RowXP : ((Rows.fnExactPlainOrderRow.ifacesOut == Tryz.f6.resultTypes.toList.any (Tryz.prog.ifacesRec ·))) = true := by kernel_rfl
theorem jf21RowXP : ((Rows.fnExactPlainOrderRow.loopsOut == Tryz.f6.resultTypes.toList.any (Tryz.prog.loopsFrom ·))) = true := by kernel_rfl
theorem jf22RowXP : ((Rows.fnExactPlainOrderRow.plainKeys == Tryz.prog.plainKeys)) = true := by kernel_rfl
theorem jf23RowXP : (Rows.fnExactPlainOrderRow.shortTexts.isNone) = true := by kernel_rfl
theorem jf24RowXP : (Tryz.prog.stopsHeard) = true := by kernel_rfl
theorem jf25RowXP : (Tryz.prog.mayEnter) = true := by kernel_rfl
theorem jf26RowXP : ((Rows.fnExactPlainOrderRow.lifted == Tryz.prog.liftsFinal)) = true := by kernel_rfl
theorem jf27RowXP : ((Tryz.prog.make == some Rows.fnExactPlainOrderRow.make)) = true := by kernel_rfl
theorem jf29RowXP : ((Rows.fnExactPlainOrderRow.pinned == Rows.fnExactPlainOrderRow.pinnedBy)) = true := by kernel_rfl
theorem jf30RowXP : ((Rows.fnExactPlainOrderRow.veiled == (Tryz.f6.params.toList ++ Rows.fnExactPlainOrderSpec.plain.varTypes Tryz.prog ++ Tryz.f6.resultTypes.toList).any (Tryz.prog.veiledRec ·))) = true := by kernel_rfl
theorem jf31RowXP : (Rows.fnExactPlainOrderRow.veiledFits Tryz.prog Tryz.f6.params.toList (Tryz.f6.params.toList ++ Rows.fnExactPlainOrderSpec.plain.varTypes Tryz.prog ++ Tryz.f6.resultTypes.toList)) = true := by kernel_rfl
end Go.Proofs.YtobplpdjkfbfoaaGreatDoor
