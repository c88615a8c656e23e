/-
  Closing facts of a row, one theorem each.
-/
import Derived.Test.YtandbaloaenciaaGreatDoorRB
import Derived.Test.YtandbaloaenciaaGreatDoorCards
import Derived.Test.YtandbaloaenciaaGreatDoorTie
import Derived.ProofKit
import Derived.LaidMore
import Derived.Lay
import Derived.OpenShut
import Derived.Stop.Joined
import Derived.SevenTiedAt
namespace Go.Proofs.YtandbaloaenciaaGreatDoor
open Go.ChangeShapes Go.WideShapes Go.ChangeAt Go.RowKit
theorem jf12RowRF : ((Rows.fnRunFreshRow.named == Tryz.prog.varsNamed 4)) = true := by kernel_rfl
theorem jf13RowRF : ((Rows.fnRunFreshRow.maps == (Tryz.f4.params.toList ++ Rows.fnRunFreshSpec.plain.varTypes Tryz.prog).any (Tryz.prog.mapsRec ·))) = true := by kernel_rfl
theorem jf14RowRF : ((Rows.fnRunFreshRow.ifaces == (Tryz.f4.params.toList ++ Rows.fnRunFreshSpec.plain.varTypes Tryz.prog).any (Tryz.prog.ifacesRec ·))) = true := by kernel_rfl
theorem jf15RowRF : ((Rows.fnRunFreshRow.mapsOut == Tryz.prog.mapsAmong Tryz.f4.resultTypes.toList)) = true := by kernel_rfl
theorem jf16RowRF : ((Rows.fnRunFreshRow.loops == (Tryz.f4.params.toList ++ Rows.fnRunFreshSpec.plain.varTypes Tryz.prog).any (Tryz.prog.loopsFrom ·))) = true := by kernel_rfl
theorem jf17RowRF : ((Rows.fnRunFreshRow.wideKeys == (Tryz.f4.params.toList ++ Rows.fnRunFreshSpec.plain.varTypes Tryz.prog ++ Tryz.f4.resultTypes.toList).any (Tryz.prog.wideKeysFrom ·))) = true := by kernel_rfl
theorem jf18RowRF : (Rows.fnRunFreshSpec.vars.all (Tryz.prog.varReadable ·)) = true := by kernel_rfl
theorem jf19RowRF : (Tryz.f4.resultTypes.all (fun t => Tryz.prog.readableRec t && decide (t < Tryz.prog.types.size))) = true := by kernel_rfl
theorem jf20RowRF : ((Rows.fnRunFreshRow.ifacesOut == Tryz.f4.resultTypes.toList.any (Tryz.prog.ifacesRec ·))) = true := by kernel_rfl
theorem jf21RowRF : ((Rows.fnRunFreshRow.loopsOut == Tryz.f4.resultTypes.toList.any (Tryz.prog.loopsFrom ·))) = true := by kernel_rfl
theorem jf22RowRF : ((Rows.fnRunFreshRow.plainKeys == Tryz.prog.plainKeys)) = true := by kernel_rfl
theorem jf23RowRF : (Rows.fnRunFreshRow.shortTexts.isNone) = true := by kernel_rfl
theorem jf24RowRF : (Tryz.prog.stopsHeard) = true := by kernel_rfl
theorem jf25RowRF : (Tryz.prog.mayEnter) = true := by kernel_rfl
theorem jf26RowRF : ((Rows.fnRunFreshRow.lifted == Tryz.prog.liftsFinal)) = true := by kernel_rfl
theorem jf27RowRF : ((Tryz.prog.make == some Rows.fnRunFreshRow.make)) = true := by kernel_rfl
theorem jf29RowRF : ((Rows.fnRunFreshRow.pinned == Rows.fnRunFreshRow.pinnedBy)) = true := by kernel_rfl
theorem jf30RowRF : ((Rows.fnRunFreshRow.veiled == (Tryz.f4.params.toList ++ Rows.fnRunFreshSpec.plain.varTypes Tryz.prog ++ Tryz.f4.resultTypes.toList).any (Tryz.prog.veiledRec ·))) = true := by kernel_rfl
theorem jf31RowRF : (Rows.fnRunFreshRow.veiledFits Tryz.prog Tryz.f4.params.toList (Tryz.f4.params.toList ++ Rows.fnRunFreshSpec.plain.varTypes Tryz.prog ++ Tryz.f4.resultTypes.toList)) = true := by kernel_rfl
end Go.Proofs.YtandbaloaenciaaGreatDoor
