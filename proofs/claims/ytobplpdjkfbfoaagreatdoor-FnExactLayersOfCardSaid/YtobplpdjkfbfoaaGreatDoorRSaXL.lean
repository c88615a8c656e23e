/-
  Closing facts of a row, one theorem each.
-/
import Derived.Test.YtobplpdjkfbfoaaGreatDoorRB
import Derived.Test.YtobplpdjkfbfoaaGreatDoorCards
import Derived.Test.YtobplpdjkfbfoaaGreatDoorTie
import Derived.ProofKit
import Derived.LaidMore
import Derived.Lay
import Derived.OpenShut
import Derived.Stop.Joined
import Derived.SevenTiedAt
namespace Go.Proofs.YtobplpdjkfbfoaaGreatDoor
open Go.ChangeShapes Go.WideShapes Go.ChangeAt Go.RowKit
theorem jf0RowXL : (Rows.fnExactLayersOfRow.wf (OpenSpec.ofChange Rows.fnExactLayersOfSpec)) = true := by kernel_rfl
theorem jf1RowXL : (laidOutB Tryz.prog) = true := by kernel_rfl
theorem jf2RowXL : (mapsRowed Tryz.prog) = true := by kernel_rfl
theorem jf3RowXL : (Tryz.f4.params.all (Tryz.prog.readableRec ·)) = true := by kernel_rfl
theorem jf4RowXL : (namedTie Tryz.prog Rows.fnExactLayersOfRow.named Rows.fnExactLayersOfSpec.vars) = true := by kernel_rfl
theorem jf5RowXL : ((Rows.fnExactLayersOfRow.stops == [])) = true := by kernel_rfl
theorem jf6RowXL : ((Tryz.prog.stops == [])) = true := by kernel_rfl
theorem jf7RowXL : ((Rows.fnExactLayersOfRow.knobs == [])) = true := by kernel_rfl
theorem jf8RowXL : ((Tryz.prog.stopKnobs == [])) = true := by kernel_rfl
theorem jf9RowXL : ((Rows.fnExactLayersOfRow.inPlace == Tryz.prog.inPlace 4)) = true := by kernel_rfl
theorem jf10RowXL : ((Rows.fnExactLayersOfRow.unfollowed == Tryz.prog.unfollowed 4)) = true := by kernel_rfl
theorem jf11RowXL : ((Rows.fnExactLayersOfRow.recurses == Tryz.prog.recurses 4)) = true := by kernel_rfl
end Go.Proofs.YtobplpdjkfbfoaaGreatDoor
