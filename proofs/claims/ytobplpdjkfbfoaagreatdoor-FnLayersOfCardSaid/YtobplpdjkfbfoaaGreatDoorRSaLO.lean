/-
  Closing facts of a row, one theorem each.
-/
import Derived.Test.YtobplpdjkfbfoaaGreatDoorRB
import Derived.Test.YtobplpdjkfbfoaaGreatDoorCards
import Derived.Test.YtobplpdjkfbfoaaGreatDoorTie
import Derived.ProofKit
import Derived.LaidMore
import Derived.Lay
import Derived.OpenShut
import Derived.Stop.Joined
import Derived.SevenTiedAt
namespace Go.Proofs.YtobplpdjkfbfoaaGreatDoor
open Go.ChangeShapes Go.WideShapes Go.ChangeAt Go.RowKit
theorem jf0RowLO : (Rows.fnLayersOfRow.wf (OpenSpec.ofChange Rows.fnLayersOfSpec)) = true := by kernel_rfl
theorem jf1RowLO : (laidOutB Tryz.prog) = true := by kernel_rfl
theorem jf2RowLO : (mapsRowed Tryz.prog) = true := by kernel_rfl
theorem jf3RowLO : (Tryz.f3.params.all (Tryz.prog.readableRec ·)) = true := by kernel_rfl
theorem jf4RowLO : (namedTie Tryz.prog Rows.fnLayersOfRow.named Rows.fnLayersOfSpec.vars) = true := by kernel_rfl
theorem jf5RowLO : ((Rows.fnLayersOfRow.stops == [])) = true := by kernel_rfl
theorem jf6RowLO : ((Tryz.prog.stops == [])) = true := by kernel_rfl
theorem jf7RowLO : ((Rows.fnLayersOfRow.knobs == [])) = true := by kernel_rfl
theorem jf8RowLO : ((Tryz.prog.stopKnobs == [])) = true := by kernel_rfl
theorem jf9RowLO : ((Rows.fnLayersOfRow.inPlace == Tryz.prog.inPlace 3)) = true := by kernel_rfl
theorem jf10RowLO : ((Rows.fnLayersOfRow.unfollowed == Tryz.prog.unfollowed 3)) = true := by kernel_rfl
theorem jf11RowLO : ((Rows.fnLayersOfRow.recurses == Tryz.prog.recurses 3)) = true := by kernel_rfl
end Go.Proofs.YtobplpdjkfbfoaaGreatDoor
