/-
  Closing facts of a row, one theorem each.
-/
import Derived.Test.YtmenakmafojpaaaGreatDoorRB
import Derived.Test.YtmenakmafojpaaaGreatDoorCards
import Derived.Test.YtmenakmafojpaaaGreatDoorTie
import Derived.ProofKit
import Derived.LaidMore
import Derived.Lay
import Derived.OpenShut
import Derived.Stop.Joined
import Derived.SevenTiedAt
namespace Go.Proofs.YtmenakmafojpaaaGreatDoor
open Go.ChangeShapes Go.WideShapes Go.ChangeAt Go.RowKit
theorem jf0RowFF : (Rows.fnFirstFailureRow.wf (OpenSpec.ofChange Rows.fnFirstFailureSpec)) = true := by kernel_rfl
theorem jf1RowFF : (laidOutB Tryz.prog) = true := by kernel_rfl
theorem jf2RowFF : (mapsRowed Tryz.prog) = true := by kernel_rfl
theorem jf3RowFF : (Tryz.f7.params.all (Tryz.prog.readableRec ·)) = true := by kernel_rfl
theorem jf4RowFF : (namedTie Tryz.prog Rows.fnFirstFailureRow.named Rows.fnFirstFailureSpec.vars) = true := by kernel_rfl
theorem jf5RowFF : ((Rows.fnFirstFailureRow.stops == [])) = true := by kernel_rfl
theorem jf6RowFF : ((Tryz.prog.stops == [])) = true := by kernel_rfl
theorem jf7RowFF : ((Rows.fnFirstFailureRow.knobs == [])) = true := by kernel_rfl
theorem jf8RowFF : ((Tryz.prog.stopKnobs == [])) = true := by kernel_rfl
theorem jf9RowFF : ((Rows.fnFirstFailureRow.inPlace == Tryz.prog.inPlace 7)) = true := by kernel_rfl
theorem jf10RowFF : ((Rows.fnFirstFailureRow.unfollowed == Tryz.prog.unfollowed 7)) = true := by kernel_rfl
theorem jf11RowFF : ((Rows.fnFirstFailureRow.recurses == Tryz.prog.recurses 7)) = true := by kernel_rfl
end Go.Proofs.YtmenakmafojpaaaGreatDoor
