/-
  Closing facts of a row, one theorem each.
-/
import Derived.Test.YtiiiokblnnlapaaGreatDoorRB
import Derived.Test.YtiiiokblnnlapaaGreatDoorCards
import Derived.Test.YtiiiokblnnlapaaGreatDoorTie
import Derived.ProofKit
import Derived.LaidMore
import Derived.Lay
import Derived.OpenShut
import Derived.Stop.Joined
import Derived.SevenTiedAt
namespace Go.Proofs.YtiiiokblnnlapaaGreatDoor
open Go.ChangeShapes Go.WideShapes Go.ChangeAt Go.RowKit
theorem jf0RowPS : (Rows.fnExactPartialSeenRow.wf (OpenSpec.ofChange Rows.fnExactPartialSeenSpec)) = true := by kernel_rfl
theorem jf1RowPS : (laidOutB Tryz.prog) = true := by kernel_rfl
theorem jf2RowPS : (mapsRowed Tryz.prog) = true := by kernel_rfl
theorem jf3RowPS : (Tryz.f9.params.all (Tryz.prog.readableRec ·)) = true := by kernel_rfl
theorem jf4RowPS : (namedTie Tryz.prog Rows.fnExactPartialSeenRow.named Rows.fnExactPartialSeenSpec.vars) = true := by kernel_rfl
theorem jf5RowPS : ((Rows.fnExactPartialSeenRow.stops == [])) = true := by kernel_rfl
theorem jf6RowPS : ((Tryz.prog.stops == [])) = true := by kernel_rfl
theorem jf7RowPS : ((Rows.fnExactPartialSeenRow.knobs == [])) = true := by kernel_rfl
theorem jf8RowPS : ((Tryz.prog.stopKnobs == [])) = true := by kernel_rfl
theorem jf9RowPS : ((Rows.fnExactPartialSeenRow.inPlace == Tryz.prog.inPlace 9)) = true := by kernel_rfl
theorem jf10RowPS : ((Rows.fnExactPartialSeenRow.unfollowed == Tryz.prog.unfollowed 9)) = true := by kernel_rfl
theorem jf11RowPS : ((Rows.fnExactPartialSeenRow.recurses == Tryz.prog.recurses 9)) = true := by kernel_rfl
end Go.Proofs.YtiiiokblnnlapaaGreatDoor
