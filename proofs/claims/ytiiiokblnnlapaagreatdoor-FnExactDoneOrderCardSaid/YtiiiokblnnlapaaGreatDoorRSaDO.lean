/-
  Closing facts of a row, one theorem each.
-/
import Derived.Test.YtiiiokblnnlapaaGreatDoorRBDO
import Derived.Test.YtiiiokblnnlapaaGreatDoorCards
import Derived.Test.YtiiiokblnnlapaaGreatDoorTie
import Derived.ProofKit
import Derived.LaidMore
import Derived.Lay
import Derived.OpenShut
import Derived.Stop.Joined
import Derived.SevenTiedAt
namespace Go.Proofs.YtiiiokblnnlapaaGreatDoor
open Go.ChangeShapes Go.WideShapes Go.ChangeAt Go.RowKit
theorem jf0RowDO : (Rows.fnExactDoneOrderRow.wf (OpenSpec.ofChange Rows.fnExactDoneOrderSpec)) = true := by kernel_rfl
theorem jf1RowDO : (laidOutB Tryz.prog) = true := by kernel_rfl
theorem jf2RowDO : (mapsRowed Tryz.prog) = true := by kernel_rfl
theorem jf3RowDO : (Tryz.f6.params.all (Tryz.prog.readableRec ·)) = true := by kernel_rfl
theorem jf4RowDO : (namedTie Tryz.prog Rows.fnExactDoneOrderRow.named Rows.fnExactDoneOrderSpec.vars) = true := by kernel_rfl
theorem jf5RowDO : ((Rows.fnExactDoneOrderRow.stops == [])) = true := by kernel_rfl
theorem jf6RowDO : ((Tryz.prog.stops == [])) = true := by kernel_rfl
theorem jf7RowDO : ((Rows.fnExactDoneOrderRow.knobs == [])) = true := by kernel_rfl
theorem jf8RowDO : ((Tryz.prog.stopKnobs == [])) = true := by kernel_rfl
theorem jf9RowDO : ((Rows.fnExactDoneOrderRow.inPlace == Tryz.prog.inPlace 6)) = true := by kernel_rfl
theorem jf10RowDO : ((Rows.fnExactDoneOrderRow.unfollowed == Tryz.prog.unfollowed 6)) = true := by kernel_rfl
theorem jf11RowDO : ((Rows.fnExactDoneOrderRow.recurses == Tryz.prog.recurses 6)) = true := by kernel_rfl
end Go.Proofs.YtiiiokblnnlapaaGreatDoor
