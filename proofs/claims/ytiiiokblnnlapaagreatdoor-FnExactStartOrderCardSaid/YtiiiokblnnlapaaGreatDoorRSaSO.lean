/-
  Closing facts of a row, one theorem each.
-/
import Derived.Test.YtiiiokblnnlapaaGreatDoorRB
import Derived.Test.YtiiiokblnnlapaaGreatDoorCards
import Derived.Test.YtiiiokblnnlapaaGreatDoorTie
import Derived.ProofKit
import Derived.LaidMore
import Derived.Lay
import Derived.OpenShut
import Derived.Stop.Joined
import Derived.SevenTiedAt
namespace Go.Proofs.YtiiiokblnnlapaaGreatDoor
open Go.ChangeShapes Go.WideShapes Go.ChangeAt Go.RowKit
theorem jf0RowSO : (Rows.fnExactStartOrderRow.wf (OpenSpec.ofChange Rows.fnExactStartOrderSpec)) = true := by kernel_rfl
theorem jf1RowSO : (laidOutB Tryz.prog) = true := by kernel_rfl
theorem jf2RowSO : (mapsRowed Tryz.prog) = true := by kernel_rfl
theorem jf3RowSO : (Tryz.f7.params.all (Tryz.prog.readableRec ·)) = true := by kernel_rfl
theorem jf4RowSO : (namedTie Tryz.prog Rows.fnExactStartOrderRow.named Rows.fnExactStartOrderSpec.vars) = true := by kernel_rfl
theorem jf5RowSO : ((Rows.fnExactStartOrderRow.stops == [])) = true := by kernel_rfl
theorem jf6RowSO : ((Tryz.prog.stops == [])) = true := by kernel_rfl
theorem jf7RowSO : ((Rows.fnExactStartOrderRow.knobs == [])) = true := by kernel_rfl
theorem jf8RowSO : ((Tryz.prog.stopKnobs == [])) = true := by kernel_rfl
theorem jf9RowSO : ((Rows.fnExactStartOrderRow.inPlace == Tryz.prog.inPlace 7)) = true := by kernel_rfl
theorem jf10RowSO : ((Rows.fnExactStartOrderRow.unfollowed == Tryz.prog.unfollowed 7)) = true := by kernel_rfl
theorem jf11RowSO : ((Rows.fnExactStartOrderRow.recurses == Tryz.prog.recurses 7)) = true := by kernel_rfl
end Go.Proofs.YtiiiokblnnlapaaGreatDoor
