/-
  Closing facts of a row, one theorem each.
-/
import Derived.Test.YtiiiokblnnlapaaGreatDoorRB
import Derived.Test.YtiiiokblnnlapaaGreatDoorCards
import Derived.Test.YtiiiokblnnlapaaGreatDoorTie
import Derived.ProofKit
import Derived.LaidMore
import Derived.Lay
import Derived.OpenShut
import Derived.Stop.Joined
import Derived.SevenTiedAt
namespace Go.Proofs.YtiiiokblnnlapaaGreatDoor
open Go.ChangeShapes Go.WideShapes Go.ChangeAt Go.RowKit
theorem jf0RowAO : (Rows.fnExactAttrsOfRow.wf (OpenSpec.ofChange Rows.fnExactAttrsOfSpec)) = true := by kernel_rfl
theorem jf1RowAO : (laidOutB Tryz.prog) = true := by kernel_rfl
theorem jf2RowAO : (mapsRowed Tryz.prog) = true := by kernel_rfl
theorem jf3RowAO : (Tryz.f11.params.all (Tryz.prog.readableRec ·)) = true := by kernel_rfl
theorem jf4RowAO : (namedTie Tryz.prog Rows.fnExactAttrsOfRow.named Rows.fnExactAttrsOfSpec.vars) = true := by kernel_rfl
theorem jf5RowAO : ((Rows.fnExactAttrsOfRow.stops == [])) = true := by kernel_rfl
theorem jf6RowAO : ((Tryz.prog.stops == [])) = true := by kernel_rfl
theorem jf7RowAO : ((Rows.fnExactAttrsOfRow.knobs == [])) = true := by kernel_rfl
theorem jf8RowAO : ((Tryz.prog.stopKnobs == [])) = true := by kernel_rfl
theorem jf9RowAO : ((Rows.fnExactAttrsOfRow.inPlace == Tryz.prog.inPlace 11)) = true := by kernel_rfl
theorem jf10RowAO : ((Rows.fnExactAttrsOfRow.unfollowed == Tryz.prog.unfollowed 11)) = true := by kernel_rfl
theorem jf11RowAO : ((Rows.fnExactAttrsOfRow.recurses == Tryz.prog.recurses 11)) = true := by kernel_rfl
end Go.Proofs.YtiiiokblnnlapaaGreatDoor
