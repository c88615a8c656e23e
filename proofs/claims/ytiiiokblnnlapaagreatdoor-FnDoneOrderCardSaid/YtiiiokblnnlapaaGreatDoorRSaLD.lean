/-
  Closing facts of a row, one theorem each.
-/
import Derived.Test.YtiiiokblnnlapaaGreatDoorRBLD
import Derived.Test.YtiiiokblnnlapaaGreatDoorCards
import Derived.Test.YtiiiokblnnlapaaGreatDoorTie
import Derived.ProofKit
import Derived.LaidMore
import Derived.Lay
import Derived.OpenShut
import Derived.Stop.Joined
import Derived.SevenTiedAt
namespace Go.Proofs.YtiiiokblnnlapaaGreatDoor
open Go.ChangeShapes Go.WideShapes Go.ChangeAt Go.RowKit
theorem jf0RowLD : (Rows.fnDoneOrderRow.wf (OpenSpec.ofChange Rows.fnDoneOrderSpec)) = true := by kernel_rfl
theorem jf1RowLD : (laidOutB Tryz.prog) = true := by kernel_rfl
theorem jf2RowLD : (mapsRowed Tryz.prog) = true := by kernel_rfl
theorem jf3RowLD : (Tryz.f4.params.all (Tryz.prog.readableRec ·)) = true := by kernel_rfl
theorem jf4RowLD : (namedTie Tryz.prog Rows.fnDoneOrderRow.named Rows.fnDoneOrderSpec.vars) = true := by kernel_rfl
theorem jf5RowLD : ((Rows.fnDoneOrderRow.stops == [])) = true := by kernel_rfl
theorem jf6RowLD : ((Tryz.prog.stops == [])) = true := by kernel_rfl
theorem jf7RowLD : ((Rows.fnDoneOrderRow.knobs == [])) = true := by kernel_rfl
theorem jf8RowLD : ((Tryz.prog.stopKnobs == [])) = true := by kernel_rfl
theorem jf9RowLD : ((Rows.fnDoneOrderRow.inPlace == Tryz.prog.inPlace 4)) = true := by kernel_rfl
theorem jf10RowLD : ((Rows.fnDoneOrderRow.unfollowed == Tryz.prog.unfollowed 4)) = true := by kernel_rfl
theorem jf11RowLD : ((Rows.fnDoneOrderRow.recurses == Tryz.prog.recurses 4)) = true := by kernel_rfl
end Go.Proofs.YtiiiokblnnlapaaGreatDoor
