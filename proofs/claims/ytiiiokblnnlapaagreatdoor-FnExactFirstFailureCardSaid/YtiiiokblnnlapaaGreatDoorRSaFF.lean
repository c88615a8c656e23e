/-
  Closing facts of a row, one theorem each.
-/
import Derived.Test.YtiiiokblnnlapaaGreatDoorRBFF
import Derived.Test.YtiiiokblnnlapaaGreatDoorCards
import Derived.Test.YtiiiokblnnlapaaGreatDoorTie
import Derived.ProofKit
import Derived.LaidMore
import Derived.Lay
import Derived.OpenShut
import Derived.Stop.Joined
import Derived.SevenTiedAt
namespace Go.Proofs.YtiiiokblnnlapaaGreatDoor
open Go.ChangeShapes Go.WideShapes Go.ChangeAt Go.RowKit
theorem jf0RowFF : (Rows.fnExactFirstFailureRow.wf (OpenSpec.ofChange Rows.fnExactFirstFailureSpec)) = true := by kernel_rfl
theorem jf1RowFF : (laidOutB Tryz.prog) = true := by kernel_rfl
theorem jf2RowFF : (mapsRowed Tryz.prog) = true := by kernel_rfl
theorem jf3RowFF : (Tryz.f3.params.all (Tryz.prog.readableRec ·)) = true := by kernel_rfl
theorem jf4RowFF : (namedTie Tryz.prog Rows.fnExactFirstFailureRow.named Rows.fnExactFirstFailureSpec.vars) = true := by kernel_rfl
theorem jf5RowFF : ((Rows.fnExactFirstFailureRow.stops == [])) = true := by kernel_rfl
theorem jf6RowFF : ((Tryz.prog.stops == [])) = true := by kernel_rfl
theorem jf7RowFF : ((Rows.fnExactFirstFailureRow.knobs == [])) = true := by kernel_rfl
theorem jf8RowFF : ((Tryz.prog.stopKnobs == [])) = true := by kernel_rfl
theorem jf9RowFF : ((Rows.fnExactFirstFailureRow.inPlace == Tryz.prog.inPlace 3)) = true := by kernel_rfl
theorem jf10RowFF : ((Rows.fnExactFirstFailureRow.unfollowed == Tryz.prog.unfollowed 3)) = true := by kernel_rfl
theorem jf11RowFF : ((Rows.fnExactFirstFailureRow.recurses == Tryz.prog.recurses 3)) = true := by kernel_rfl
end Go.Proofs.YtiiiokblnnlapaaGreatDoor
