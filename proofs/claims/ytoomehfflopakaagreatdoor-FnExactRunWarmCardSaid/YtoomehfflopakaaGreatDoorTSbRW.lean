/-
  Closing facts of a row, one theorem each.
-/
import Derived.Test.YtoomehfflopakaaGreatDoorTB
import Derived.Test.YtoomehfflopakaaGreatDoorCards
import Derived.Test.YtoomehfflopakaaGreatDoorTie
import Derived.ProofKit
import Derived.LaidMore
import Derived.Lay
import Derived.OpenShut
import Derived.Stop.Joined
import Derived.SevenTiedAt
namespace Go.Proofs.YtoomehfflopakaaGreatDoor
open Go.ChangeShapes Go.WideShapes Go.ChangeAt Go.RowKit
theorem jf12RowRW : ((Rows.fnExactRunWarmRow.named == Tryz.prog.varsNamed 4)) = true := by kernel_rfl
theorem jf13RowRW : ((Rows.fnExactRunWarmRow.maps == (Tryz.f4.params.toList ++ Rows.fnExactRunWarmSpec.plain.varTypes Tryz.prog).any (Tryz.prog.mapsRec ·))) = true := by kernel_rfl
theorem jf14RowRW : ((Rows.fnExactRunWarmRow.ifaces == (Tryz.f4.params.toList ++ Rows.fnExactRunWarmSpec.plain.varTypes Tryz.prog).any (Tryz.prog.ifacesRec ·))) = true := by kernel_rfl
theorem jf15RowRW : ((Rows.fnExactRunWarmRow.mapsOut == Tryz.prog.mapsAmong Tryz.f4.resultTypes.toList)) = true := by kernel_rfl
theorem jf16RowRW : ((Rows.fnExactRunWarmRow.loops == (Tryz.f4.params.toList ++ Rows.fnExactRunWarmSpec.plain.varTypes Tryz.prog).any (Tryz.prog.loopsFrom ·))) = true := by kernel_rfl
theorem jf17RowRW : ((Rows.fnExactRunWarmRow.wideKeys == (Tryz.f4.params.toList ++ Rows.fnExactRunWarmSpec.plain.varTypes Tryz.prog ++ Tryz.f4.resultTypes.toList).any (Tryz.prog.wideKeysFrom ·))) = true := by kernel_rfl
theorem jf18RowRW : (Rows.fnExactRunWarmSpec.vars.all (Tryz.prog.varReadable ·)) = true := by kernel_rfl
theorem jf19RowRW : (Tryz.f4.resultTypes.all (fun t => Tryz.prog.readableRec t && decide (t < Tryz.prog.types.size))) = true := by kernel_rfl
theorem jf20RowRW : ((Rows.fnExactRunWarmRow.ifacesOut == Tryz.f4.resultTypes.toList.any (Tryz.prog.ifacesRec ·))) = true := by kernel_rfl
theorem jf21RowRW : ((Rows.fnExactRunWarmRow.loopsOut == Tryz.f4.resultTypes.toList.any (Tryz.prog.loopsFrom ·))) = true := by kernel_rfl
theorem jf22RowRW : ((Rows.fnExactRunWarmRow.plainKeys == Tryz.prog.plainKeys)) = true := by kernel_rfl
theorem jf23RowRW : (Rows.fnExactRunWarmRow.shortTexts.isNone) = true := by kernel_rfl
theorem jf24RowRW : (Tryz.prog.stopsHeard) = true := by kernel_rfl
theorem jf25RowRW : (Tryz.prog.mayEnter) = true := by kernel_rfl
theorem jf26RowRW : ((Rows.fnExactRunWarmRow.lifted == Tryz.prog.liftsFinal)) = true := by kernel_rfl
theorem jf27RowRW : ((Tryz.prog.make == some Rows.fnExactRunWarmRow.make)) = true := by kernel_rfl
theorem jf29RowRW : ((Rows.fnExactRunWarmRow.pinned == Rows.fnExactRunWarmRow.pinnedBy)) = true := by kernel_rfl
theorem jf30RowRW : ((Rows.fnExactRunWarmRow.veiled == (Tryz.f4.params.toList ++ Rows.fnExactRunWarmSpec.plain.varTypes Tryz.prog ++ Tryz.f4.resultTypes.toList).any (Tryz.prog.veiledRec ·))) = true := by kernel_rfl
theorem jf31RowRW : (Rows.fnExactRunWarmRow.veiledFits Tryz.prog Tryz.f4.params.toList (Tryz.f4.params.toList ++ Rows.fnExactRunWarmSpec.plain.varTypes Tryz.prog ++ Tryz.f4.resultTypes.toList)) = true := by kernel_rfl
end Go.Proofs.YtoomehfflopakaaGreatDoor
