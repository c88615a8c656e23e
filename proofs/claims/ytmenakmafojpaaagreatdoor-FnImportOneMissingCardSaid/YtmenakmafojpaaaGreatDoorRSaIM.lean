/-
  Closing facts of a row, one theorem each.
-/
import Derived.Test.YtmenakmafojpaaaGreatDoorRB
import Derived.Test.YtmenakmafojpaaaGreatDoorCards
import Derived.Test.YtmenakmafojpaaaGreatDoorTie
import Derived.ProofKit
import Derived.LaidMore
import Derived.Lay
import Derived.OpenShut
import Derived.Stop.Joined
import Derived.SevenTiedAt
namespace Go.Proofs.YtmenakmafojpaaaGreatDoor
open Go.ChangeShapes Go.WideShapes Go.ChangeAt Go.RowKit
theorem jf0RowIM : (Rows.fnImportOneMissingRow.wf (OpenSpec.ofChange Rows.fnImportOneMissingSpec)) = true := by kernel_rfl
theorem jf1RowIM : (laidOutB Tryz.prog) = true := by kernel_rfl
theorem jf2RowIM : (mapsRowed Tryz.prog) = true := by kernel_rfl
theorem jf3RowIM : (Tryz.f6.params.all (Tryz.prog.readableRec ·)) = true := by kernel_rfl
theorem jf4RowIM : (namedTie Tryz.prog Rows.fnImportOneMissingRow.named Rows.fnImportOneMissingSpec.vars) = true := by kernel_rfl
theorem jf5RowIM : ((Rows.fnImportOneMissingRow.stops == [])) = true := by kernel_rfl
theorem jf6RowIM : ((Tryz.prog.stops == [])) = true := by kernel_rfl
theorem jf7RowIM : ((Rows.fnImportOneMissingRow.knobs == [])) = true := by kernel_rfl
theorem jf8RowIM : ((Tryz.prog.stopKnobs == [])) = true := by kernel_rfl
theorem jf9RowIM : ((Rows.fnImportOneMissingRow.inPlace == Tryz.prog.inPlace 6)) = true := by kernel_rfl
theorem jf10RowIM : ((Rows.fnImportOneMissingRow.unfollowed == Tryz.prog.unfollowed 6)) = true := by kernel_rfl
theorem jf11RowIM : ((Rows.fnImportOneMissingRow.recurses == Tryz.prog.recurses 6)) = true := by kernel_rfl
end Go.Proofs.YtmenakmafojpaaaGreatDoor
