/-
  Closing facts of a row, one theorem each.
-/
import Derived.Test.YtobplpdjkfbfoaaGreatDoorRB
import Derived.Test.YtobplpdjkfbfoaaGreatDoorCards
import Derived.Test.YtobplpdjkfbfoaaGreatDoorTie
import Derived.ProofKit
import Derived.LaidMore
import Derived.Lay
import Derived.OpenShut
import Derived.Stop.Joined
import Derived.SevenTiedAt
namespace Go.Proofs.YtobplpdjkfbfoaaGreatDoor
open Go.ChangeShapes Go.WideShapes Go.ChangeAt Go.RowKit
theorem jf0RowPN : (Rows.fnPlainOrderNeedsRow.wf (OpenSpec.ofChange Rows.fnPlainOrderNeedsSpec)) = true := by kernel_rfl
theorem jf1RowPN : (laidOutB Tryz.prog) = true := by kernel_rfl
theorem jf2RowPN : (mapsRowed Tryz.prog) = true := by kernel_rfl
theorem jf3RowPN : (Tryz.f5.params.all (Tryz.prog.readableRec ·)) = true := by kernel_rfl
theorem jf4RowPN : (namedTie Tryz.prog Rows.fnPlainOrderNeedsRow.named Rows.fnPlainOrderNeedsSpec.vars) = true := by kernel_rfl
theorem jf5RowPN : ((Rows.fnPlainOrderNeedsRow.stops == [])) = true := by kernel_rfl
theorem jf6RowPN : ((Tryz.prog.stops == [])) = true := by kernel_rfl
theorem jf7RowPN : ((Rows.fnPlainOrderNeedsRow.knobs == [])) = true := by kernel_rfl
theorem jf8RowPN : ((Tryz.prog.stopKnobs == [])) = true := by kernel_rfl
theorem jf9RowPN : ((Rows.fnPlainOrderNeedsRow.inPlace == Tryz.prog.inPlace 5)) = true := by kernel_rfl
theorem jf10RowPN : ((Rows.fnPlainOrderNeedsRow.unfollowed == Tryz.prog.unfollowed 5)) = true := by kernel_rfl
theorem jf11RowPN : ((Rows.fnPlainOrderNeedsRow.recurses == Tryz.prog.recurses 5)) = true := by kernel_rfl
end Go.Proofs.YtobplpdjkfbfoaaGreatDoor
