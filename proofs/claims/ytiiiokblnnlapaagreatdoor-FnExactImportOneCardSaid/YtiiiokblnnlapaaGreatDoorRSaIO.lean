/-
  Closing facts of a row, one theorem each.
-/
import Derived.Test.YtiiiokblnnlapaaGreatDoorRB
import Derived.Test.YtiiiokblnnlapaaGreatDoorCards
import Derived.Test.YtiiiokblnnlapaaGreatDoorTie
import Derived.ProofKit
import Derived.LaidMore
import Derived.Lay
import Derived.OpenShut
import Derived.Stop.Joined
import Derived.SevenTiedAt
namespace Go.Proofs.YtiiiokblnnlapaaGreatDoor
open Go.ChangeShapes Go.WideShapes Go.ChangeAt Go.RowKit
theorem jf0RowIO : (Rows.fnExactImportOneRow.wf (OpenSpec.ofChange Rows.fnExactImportOneSpec)) = true := by kernel_rfl
theorem jf1RowIO : (laidOutB Tryz.prog) = true := by kernel_rfl
theorem jf2RowIO : (mapsRowed Tryz.prog) = true := by kernel_rfl
theorem jf3RowIO : (Tryz.f8.params.all (Tryz.prog.readableRec ·)) = true := by kernel_rfl
theorem jf4RowIO : (namedTie Tryz.prog Rows.fnExactImportOneRow.named Rows.fnExactImportOneSpec.vars) = true := by kernel_rfl
theorem jf5RowIO : ((Rows.fnExactImportOneRow.stops == [])) = true := by kernel_rfl
theorem jf6RowIO : ((Tryz.prog.stops == [])) = true := by kernel_rfl
theorem jf7RowIO : ((Rows.fnExactImportOneRow.knobs == [])) = true := by kernel_rfl
theorem jf8RowIO : ((Tryz.prog.stopKnobs == [])) = true := by kernel_rfl
theorem jf9RowIO : ((Rows.fnExactImportOneRow.inPlace == Tryz.prog.inPlace 8)) = true := by kernel_rfl
theorem jf10RowIO : ((Rows.fnExactImportOneRow.unfollowed == Tryz.prog.unfollowed 8)) = true := by kernel_rfl
theorem jf11RowIO : ((Rows.fnExactImportOneRow.recurses == Tryz.prog.recurses 8)) = true := by kernel_rfl
end Go.Proofs.YtiiiokblnnlapaaGreatDoor
