/-
  Closing facts of a row, one theorem each.
-/
import Derived.Test.YtiiiokblnnlapaaGreatDoorRBLG
import Derived.Test.YtiiiokblnnlapaaGreatDoorCards
import Derived.Test.YtiiiokblnnlapaaGreatDoorTie
import Derived.ProofKit
import Derived.LaidMore
import Derived.Lay
import Derived.OpenShut
import Derived.Stop.Joined
import Derived.SevenTiedAt
namespace Go.Proofs.YtiiiokblnnlapaaGreatDoor
open Go.ChangeShapes Go.WideShapes Go.ChangeAt Go.RowKit
theorem jf0RowLG : (Rows.fnRingsOfRow.wf (OpenSpec.ofChange Rows.fnRingsOfSpec)) = true := by kernel_rfl
theorem jf1RowLG : (laidOutB Tryz.prog) = true := by kernel_rfl
theorem jf2RowLG : (mapsRowed Tryz.prog) = true := by kernel_rfl
theorem jf3RowLG : (Tryz.f5.params.all (Tryz.prog.readableRec ·)) = true := by kernel_rfl
theorem jf4RowLG : (namedTie Tryz.prog Rows.fnRingsOfRow.named Rows.fnRingsOfSpec.vars) = true := by kernel_rfl
theorem jf5RowLG : ((Rows.fnRingsOfRow.stops == [])) = true := by kernel_rfl
theorem jf6RowLG : ((Tryz.prog.stops == [])) = true := by kernel_rfl
theorem jf7RowLG : ((Rows.fnRingsOfRow.knobs == [])) = true := by kernel_rfl
theorem jf8RowLG : ((Tryz.prog.stopKnobs == [])) = true := by kernel_rfl
theorem jf9RowLG : ((Rows.fnRingsOfRow.inPlace == Tryz.prog.inPlace 5)) = true := by kernel_rfl
theorem jf10RowLG : ((Rows.fnRingsOfRow.unfollowed == Tryz.prog.unfollowed 5)) = true := by kernel_rfl
theorem jf11RowLG : ((Rows.fnRingsOfRow.recurses == Tryz.prog.recurses 5)) = true := by kernel_rfl
end Go.Proofs.YtiiiokblnnlapaaGreatDoor
