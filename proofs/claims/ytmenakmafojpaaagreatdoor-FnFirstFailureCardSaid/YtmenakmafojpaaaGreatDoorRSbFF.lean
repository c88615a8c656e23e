/-
  Closing facts of a row, one theorem each.
-/
import Derived.Test.YtmenakmafojpaaaGreatDoorRB
import Derived.Test.YtmenakmafojpaaaGreatDoorCards
import Derived.Test.YtmenakmafojpaaaGreatDoorTie
import Derived.ProofKit
import Derived.LaidMore
import Derived.Lay
import Derived.OpenShut
import Derived.Stop.Joined
import Derived.SevenTiedAt
namespace Go.Proofs.YtmenakmafojpaaaGreatDoor
open Go.ChangeShapes Go.WideShapes Go.ChangeAt Go.RowKit
theorem jf12RowFF : ((Rows.fnFirstFailureRow.named == Tryz.prog.varsNamed 7)) = true := by kernel_rfl
theorem jf13RowFF : ((Rows.fnFirstFailureRow.maps == (Tryz.f7.params.toList ++ Rows.fnFirstFailureSpec.plain.varTypes Tryz.prog).any (Tryz.prog.mapsRec ·))) = true := by kernel_rfl
theorem jf14RowFF : ((Rows.fnFirstFailureRow.ifaces == (Tryz.f7.params.toList ++ Rows.fnFirstFailureSpec.plain.varTypes Tryz.prog).any (Tryz.prog.ifacesRec ·))) = true := by kernel_rfl
theorem jf15RowFF : ((Rows.fnFirstFailureRow.mapsOut == Tryz.prog.mapsAmong Tryz.f7.resultTypes.toList)) = true := by kernel_rfl
theorem jf16RowFF : ((Rows.fnFirstFailureRow.loops == (Tryz.f7.params.toList ++ Rows.fnFirstFailureSpec.plain.varTypes Tryz.prog).any (Tryz.prog.loopsFrom ·))) = true := by kernel_rfl
theorem jf17RowFF : ((Rows.fnFirstFailureRow.wideKeys == (Tryz.f7.params.toList ++ Rows.fnFirstFailureSpec.plain.varTypes Tryz.prog ++ Tryz.f7.resultTypes.toList).any (Tryz.prog.wideKeysFrom ·))) = true := by kernel_rfl
theorem jf18RowFF : (Rows.fnFirstFailureSpec.vars.all (Tryz.prog.varReadable ·)) = true := by kernel_rfl
theorem jf19RowFF : (Tryz.f7.resultTypes.all (fun t => Tryz.prog.readableRec t && decide (t < Tryz.prog.types.size))) = true := by kernel_rfl
theorem jf20RowFF : ((Rows.fnFirstFailureRow.ifacesOut == Tryz.f7.resultTypes.toList.any (Tryz.prog.ifacesRec ·))) = true := by kernel_rfl
theorem jf21RowFF : ((Rows.fnFirstFailureRow.loopsOut == Tryz.f7.resultTypes.toList.any (Tryz.prog.loopsFrom ·))) = true := by kernel_rfl
theorem jf22RowFF : ((Rows.fnFirstFailureRow.plainKeys == Tryz.prog.plainKeys)) = true := by kernel_rfl
theorem jf23RowFF : (Rows.fnFirstFailureRow.shortTexts.isNone) = true := by kernel_rfl
theorem jf24RowFF : (Tryz.prog.stopsHeard) = true := by kernel_rfl
theorem jf25RowFF : (Tryz.prog.mayEnter) = true := by kernel_rfl
theorem jf26RowFF : ((Rows.fnFirstFailureRow.lifted == Tryz.prog.liftsFinal)) = true := by kernel_rfl
theorem jf27RowFF : ((Tryz.prog.make == some Rows.fnFirstFailureRow.make)) = true := by kernel_rfl
theorem jf29RowFF : ((Rows.fnFirstFailureRow.pinned == Rows.fnFirstFailureRow.pinnedBy)) = true := by kernel_rfl
theorem jf30RowFF : ((Rows.fnFirstFailureRow.veiled == (Tryz.f7.params.toList ++ Rows.fnFirstFailureSpec.plain.varTypes Tryz.prog ++ Tryz.f7.resultTypes.toList).any (Tryz.prog.veiledRec ·))) = true := by kernel_rfl
theorem jf31RowFF : (Rows.fnFirstFailureRow.veiledFits Tryz.prog Tryz.f7.params.toList (Tryz.f7.params.toList ++ Rows.fnFirstFailureSpec.plain.varTypes Tryz.prog ++ Tryz.f7.resultTypes.toList)) = true := by kernel_rfl
end Go.Proofs.YtmenakmafojpaaaGreatDoor
