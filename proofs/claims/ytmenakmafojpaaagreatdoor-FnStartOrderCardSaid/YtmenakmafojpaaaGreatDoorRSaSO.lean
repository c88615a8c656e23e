/-
  Closing facts of a row, one theorem each.
-/
import Derived.Test.YtmenakmafojpaaaGreatDoorRB
import Derived.Test.YtmenakmafojpaaaGreatDoorCards
import Derived.Test.YtmenakmafojpaaaGreatDoorTie
import Derived.ProofKit
import Derived.LaidMore
import Derived.Lay
import Derived.OpenShut
import Derived.Stop.Joined
import Derived.SevenTiedAt
namespace Go.Proofs.YtmenakmafojpaaaGreatDoor
open Go.ChangeShapes Go.WideShapes Go.ChangeAt Go.RowKit
theorem jf0RowSO : (Rows.fnStartOrderRow.wf (OpenSpec.ofChange Rows.fnStartOrderSpec)) = true := by kernel_rfl
theorem jf1RowSO : (laidOutB Tryz.prog) = true := by kernel_rfl
theorem jf2RowSO : (mapsRowed Tryz.prog) = true := by kernel_rfl
theorem jf3RowSO : (Tryz.f3.params.all (Tryz.prog.readableRec ·)) = true := by kernel_rfl
theorem jf4RowSO : (namedTie Tryz.prog Rows.fnStartOrderRow.named Rows.fnStartOrderSpec.vars) = true := by kernel_rfl
theorem jf5RowSO : ((Rows.fnStartOrderRow.stops == [])) = true := by kernel_rfl
theorem jf6RowSO : ((Tryz.prog.stops == [])) = true := by kernel_rfl
theorem jf7RowSO : ((Rows.fnStartOrderRow.knobs == [])) = true := by kernel_rfl
theorem jf8RowSO : ((Tryz.prog.stopKnobs == [])) = true := by kernel_rfl
theorem jf9RowSO : ((Rows.fnStartOrderRow.inPlace == Tryz.prog.inPlace 3)) = true := by kernel_rfl
theorem jf10RowSO : ((Rows.fnStartOrderRow.unfollowed == Tryz.prog.unfollowed 3)) = true := by kernel_rfl
theorem jf11RowSO : ((Rows.fnStartOrderRow.recurses == Tryz.prog.recurses 3)) = true := by kernel_rfl
end Go.Proofs.YtmenakmafojpaaaGreatDoor
