/-
  Closing facts of a row, one theorem each.
-/
import Derived.Test.YtmenakmafojpaaaGreatDoorRB
import Derived.Test.YtmenakmafojpaaaGreatDoorCards
import Derived.Test.YtmenakmafojpaaaGreatDoorTie
import Derived.ProofKit
import Derived.LaidMore
import Derived.Lay
import Derived.OpenShut
import Derived.Stop.Joined
import Derived.SevenTiedAt
namespace Go.Proofs.YtmenakmafojpaaaGreatDoor
open Go.ChangeShapes Go.WideShapes Go.ChangeAt Go.RowKit
theorem jf12RowPS : ((Rows.fnPartialSeenRow.named == Tryz.prog.varsNamed 8)) = true := by kernel_rfl
theorem jf13RowPS : ((Rows.fnPartialSeenRow.maps == (Tryz.f8.params.toList ++ Rows.fnPartialSeenSpec.plain.varTypes Tryz.prog).any (Tryz.prog.mapsRec ·))) = true := by kernel_rfl
theorem jf14RowPS : ((Rows.fnPartialSeenRow.ifaces == (Tryz.f8.params.toList ++ Rows.fnPartialSeenSpec.plain.varTypes Tryz.prog).any (Tryz.prog.ifacesRec ·))) = true := by kernel_rfl
theorem jf15RowPS : ((Rows.fnPartialSeenRow.mapsOut == Tryz.prog.mapsAmong Tryz.f8.resultTypes.toList)) = true := by kernel_rfl
theorem jf16RowPS : ((Rows.fnPartialSeenRow.loops == (Tryz.f8.params.toList ++ Rows.fnPartialSeenSpec.plain.varTypes Tryz.prog).any (Tryz.prog.loopsFrom ·))) = true := by kernel_rfl
theorem jf17RowPS : ((Rows.fnPartialSeenRow.wideKeys == (Tryz.f8.params.toList ++ Rows.fnPartialSeenSpec.plain.varTypes Tryz.prog ++ Tryz.f8.resultTypes.toList).any (Tryz.prog.wideKeysFrom ·))) = true := by kernel_rfl
theorem jf18RowPS : (Rows.fnPartialSeenSpec.vars.all (Tryz.prog.varReadable ·)) = true := by kernel_rfl
theorem jf19RowPS : (Tryz.f8.resultTypes.all (fun t => Tryz.prog.readableRec t && decide (t < Tryz.prog.types.size))) = true := by kernel_rfl
theorem jf20RowPS : ((Rows.fnPartialSeenRow.ifacesOut == Tryz.f8.resultTypes.toList.any (Tryz.prog.ifacesRec ·))) = true := by kernel_rfl
theorem jf21RowPS : ((Rows.fnPartialSeenRow.loopsOut == Tryz.f8.resultTypes.toList.any (Tryz.prog.loopsFrom ·))) = true := by kernel_rfl
theorem jf22RowPS : ((Rows.fnPartialSeenRow.plainKeys == Tryz.prog.plainKeys)) = true := by kernel_rfl
theorem jf23RowPS : (Rows.fnPartialSeenRow.shortTexts.isNone) = true := by kernel_rfl
theorem jf24RowPS : (Tryz.prog.stopsHeard) = true := by kernel_rfl
theorem jf25RowPS : (Tryz.prog.mayEnter) = true := by kernel_rfl
theorem jf26RowPS : ((Rows.fnPartialSeenRow.lifted == Tryz.prog.liftsFinal)) = true := by kernel_rfl
theorem jf27RowPS : ((Tryz.prog.make == some Rows.fnPartialSeenRow.make)) = true := by kernel_rfl
theorem jf29RowPS : ((Rows.fnPartialSeenRow.pinned == Rows.fnPartialSeenRow.pinnedBy)) = true := by kernel_rfl
theorem jf30RowPS : ((Rows.fnPartialSeenRow.veiled == (Tryz.f8.params.toList ++ Rows.fnPartialSeenSpec.plain.varTypes Tryz.prog ++ Tryz.f8.resultTypes.toList).any (Tryz.prog.veiledRec ·))) = true := by kernel_rfl
theorem jf31RowPS : (Rows.fnPartialSeenRow.veiledFits Tryz.prog Tryz.f8.params.toList (Tryz.f8.params.toList ++ Rows.fnPartialSeenSpec.plain.varTypes Tryz.prog ++ Tryz.f8.resultTypes.toList)) = true := by kernel_rfl
end Go.Proofs.YtmenakmafojpaaaGreatDoor
