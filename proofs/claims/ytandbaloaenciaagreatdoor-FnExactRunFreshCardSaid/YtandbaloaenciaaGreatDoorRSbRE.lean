/-
  Closing facts of a row, one theorem each.
-/
import Derived.Test.YtandbaloaenciaaGreatDoorRB
import Derived.Test.YtandbaloaenciaaGreatDoorCards
import Derived.Test.YtandbaloaenciaaGreatDoorTie
import Derived.ProofKit
import Derived.LaidMore
import Derived.Lay
import Derived.OpenShut
import Derived.Stop.Joined
import Derived.SevenTiedAt
namespace Go.Proofs.YtandbaloaenciaaGreatDoor
open Go.ChangeShapes Go.WideShapes Go.ChangeAt Go.RowKit
theorem jf12RowRE : ((Rows.fnExactRunFreshRow.named == Tryz.prog.varsNamed 5)) = true := by kernel_rfl
theorem jf13RowRE : ((Rows.fnExactRunFreshRow.maps == (Tryz.f5.params.toList ++ Rows.fnExactRunFreshSpec.plain.varTypes Tryz.prog).any (Tryz.prog.mapsRec ·))) = true := by kernel_rfl
theorem jf14RowRE : ((Rows.fnExactRunFreshRow.ifaces == (Tryz.f5.params.toList ++ Rows.fnExactRunFreshSpec.plain.varTypes Tryz.prog).any (Tryz.prog.ifacesRec ·))) = true := by kernel_rfl
theorem jf15RowRE : ((Rows.fnExactRunFreshRow.mapsOut == Tryz.prog.mapsAmong Tryz.f5.resultTypes.toList)) = true := by kernel_rfl
theorem jf16RowRE : ((Rows.fnExactRunFreshRow.loops == (Tryz.f5.params.toList ++ Rows.fnExactRunFreshSpec.plain.varTypes Tryz.prog).any (Tryz.prog.loopsFrom ·))) = true := by kernel_rfl
theorem jf17RowRE : ((Rows.fnExactRunFreshRow.wideKeys == (Tryz.f5.params.toList ++ Rows.fnExactRunFreshSpec.plain.varTypes Tryz.prog ++ Tryz.f5.resultTypes.toList).any (Tryz.prog.wideKeysFrom ·))) = true := by kernel_rfl
theorem jf18RowRE : (Rows.fnExactRunFreshSpec.vars.all (Tryz.prog.varReadable ·)) = true := by kernel_rfl
theorem jf19RowRE : (Tryz.f5.resultTypes.all (fun t => Tryz.prog.readableRec t && decide (t < Tryz.prog.types.size))) = true := by kernel_rfl
theorem jf20RowRE : ((Rows.fnExactRunFreshRow.ifacesOut == Tryz.f5.resultTypes.toList.any (Tryz.prog.ifacesRec ·))) = true := by kernel_rfl
theorem jf21RowRE : ((Rows.fnExactRunFreshRow.loopsOut == Tryz.f5.resultTypes.toList.any (Tryz.prog.loopsFrom ·))) = true := by kernel_rfl
theorem jf22RowRE : ((Rows.fnExactRunFreshRow.plainKeys == Tryz.prog.plainKeys)) = true := by kernel_rfl
theorem jf23RowRE : (Rows.fnExactRunFreshRow.shortTexts.isNone) = true := by kernel_rfl
theorem jf24RowRE : (Tryz.prog.stopsHeard) = true := by kernel_rfl
theorem jf25RowRE : (Tryz.prog.mayEnter) = true := by kernel_rfl
theorem jf26RowRE : ((Rows.fnExactRunFreshRow.lifted == Tryz.prog.liftsFinal)) = true := by kernel_rfl
theorem jf27RowRE : ((Tryz.prog.make == some Rows.fnExactRunFreshRow.make)) = true := by kernel_rfl
theorem jf29RowRE : ((Rows.fnExactRunFreshRow.pinned == Rows.fnExactRunFreshRow.pinnedBy)) = true := by kernel_rfl
theorem jf30RowRE : ((Rows.fnExactRunFreshRow.veiled == (Tryz.f5.params.toList ++ Rows.fnExactRunFreshSpec.plain.varTypes Tryz.prog ++ Tryz.f5.resultTypes.toList).any (Tryz.prog.veiledRec ·))) = true := by kernel_rfl
theorem jf31RowRE : (Rows.fnExactRunFreshRow.veiledFits Tryz.prog Tryz.f5.params.toList (Tryz.f5.params.toList ++ Rows.fnExactRunFreshSpec.plain.varTypes Tryz.prog ++ Tryz.f5.resultTypes.toList)) = true := by kernel_rfl
end Go.Proofs.YtandbaloaenciaaGreatDoor
