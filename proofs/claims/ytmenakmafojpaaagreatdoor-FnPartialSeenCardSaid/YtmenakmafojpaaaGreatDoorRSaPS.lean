/-
  Closing facts of a row, one theorem each.
-/
import Derived.Test.YtmenakmafojpaaaGreatDoorRB
import Derived.Test.YtmenakmafojpaaaGreatDoorCards
import Derived.Test.YtmenakmafojpaaaGreatDoorTie
import Derived.ProofKit
import Derived.LaidMore
import Derived.Lay
import Derived.OpenShut
import Derived.Stop.Joined
import Derived.SevenTiedAt
namespace Go.Proofs.YtmenakmafojpaaaGreatDoor
open Go.ChangeShapes Go.WideShapes Go.ChangeAt Go.RowKit
theorem jf0RowPS : (Rows.fnPartialSeenRow.wf (OpenSpec.ofChange Rows.fnPartialSeenSpec)) = true := by kernel_rfl
theorem jf1RowPS : (laidOutB Tryz.prog) = true := by kernel_rfl
theorem jf2RowPS : (mapsRowed Tryz.prog) = true := by kernel_rfl
theorem jf3RowPS : (Tryz.f8.params.all (Tryz.prog.readableRec ·)) = true := by kernel_rfl
theorem jf4RowPS : (namedTie Tryz.prog Rows.fnPartialSeenRow.named Rows.fnPartialSeenSpec.vars) = true := by kernel_rfl
theorem jf5RowPS : ((Rows.fnPartialSeenRow.stops == [])) = true := by kernel_rfl
theorem jf6RowPS : ((Tryz.prog.stops == [])) = true := by kernel_rfl
theorem jf7RowPS : ((Rows.fnPartialSeenRow.knobs == [])) = true := by kernel_rfl
theorem jf8RowPS : ((Tryz.prog.stopKnobs == [])) = true := by kernel_rfl
theorem jf9RowPS : ((Rows.fnPartialSeenRow.inPlace == Tryz.prog.inPlace 8)) = true := by kernel_rfl
theorem jf10RowPS : ((Rows.fnPartialSeenRow.unfollowed == Tryz.prog.unfollowed 8)) = true := by kernel_rfl
theorem jf11RowPS : ((Rows.fnPartialSeenRow.recurses == Tryz.prog.recurses 8)) = true := by kernel_rfl
end Go.Proofs.YtmenakmafojpaaaGreatDoor
