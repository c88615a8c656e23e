/-
  Closing facts of a row, one theorem each.
-/
import Derived.Test.YtmenakmafojpaaaGreatDoorRB
import Derived.Test.YtmenakmafojpaaaGreatDoorCards
import Derived.Test.YtmenakmafojpaaaGreatDoorTie
import Derived.ProofKit
import Derived.LaidMore
import Derived.Lay
import Derived.OpenShut
import Derived.Stop.Joined
import Derived.SevenTiedAt
namespace Go.Proofs.YtmenakmafojpaaaGreatDoor
open Go.ChangeShapes Go.WideShapes Go.ChangeAt Go.RowKit
theorem jf0RowAO : (Rows.fnAttrsOfRow.wf (OpenSpec.ofChange Rows.fnAttrsOfSpec)) = true := by kernel_rfl
theorem jf1RowAO : (laidOutB Tryz.prog) = true := by kernel_rfl
theorem jf2RowAO : (mapsRowed Tryz.prog) = true := by kernel_rfl
theorem jf3RowAO : (Tryz.f4.params.all (Tryz.prog.readableRec ·)) = true := by kernel_rfl
theorem jf4RowAO : (namedTie Tryz.prog Rows.fnAttrsOfRow.named Rows.fnAttrsOfSpec.vars) = true := by kernel_rfl
theorem jf5RowAO : ((Rows.fnAttrsOfRow.stops == [])) = true := by kernel_rfl
theorem jf6RowAO : ((Tryz.prog.stops == [])) = true := by kernel_rfl
theorem jf7RowAO : ((Rows.fnAttrsOfRow.knobs == [])) = true := by kernel_rfl
theorem jf8RowAO : ((Tryz.prog.stopKnobs == [])) = true := by kernel_rfl
theorem jf9RowAO : ((Rows.fnAttrsOfRow.inPlace == Tryz.prog.inPlace 4)) = true := by kernel_rfl
theorem jf10RowAO : ((Rows.fnAttrsOfRow.unfollowed == Tryz.prog.unfollowed 4)) = true := by kernel_rfl
theorem jf11RowAO : ((Rows.fnAttrsOfRow.recurses == Tryz.prog.recurses 4)) = true := by kernel_rfl
end Go.Proofs.YtmenakmafojpaaaGreatDoor
