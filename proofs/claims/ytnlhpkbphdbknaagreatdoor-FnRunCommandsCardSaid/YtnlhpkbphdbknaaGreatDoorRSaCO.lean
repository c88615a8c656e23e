/-
  Closing facts of a row, one theorem each.
-/
import Derived.Test.YtnlhpkbphdbknaaGreatDoorRB
import Derived.Test.YtnlhpkbphdbknaaGreatDoorCards
import Derived.Test.YtnlhpkbphdbknaaGreatDoorTie
import Derived.ProofKit
import Derived.LaidMore
import Derived.Lay
import Derived.OpenShut
import Derived.Stop.Joined
import Derived.SevenTiedAt
namespace Go.Proofs.YtnlhpkbphdbknaaGreatDoor
open Go.ChangeShapes Go.WideShapes Go.ChangeAt Go.RowKit
theorem jf0RowCO : (Rows.fnRunCommandsRow.wf (OpenSpec.ofChange Rows.fnRunCommandsSpec)) = true := by kernel_rfl
theorem jf1RowCO : (laidOutB Tryz.prog) = true := by kernel_rfl
theorem jf2RowCO : (mapsRowed Tryz.prog) = true := by kernel_rfl
theorem jf3RowCO : (Tryz.f3.params.all (Tryz.prog.readableRec ·)) = true := by kernel_rfl
theorem jf4RowCO : (namedTie Tryz.prog Rows.fnRunCommandsRow.named Rows.fnRunCommandsSpec.vars) = true := by kernel_rfl
theorem jf5RowCO : ((Rows.fnRunCommandsRow.stops == [])) = true := by kernel_rfl
theorem jf6RowCO : ((Tryz.prog.stops == [])) = true := by kernel_rfl
theorem jf7RowCO : ((Rows.fnRunCommandsRow.knobs == [])) = true := by kernel_rfl
theorem jf8RowCO : ((Tryz.prog.stopKnobs == [])) = true := by kernel_rfl
theorem jf9RowCO : ((Rows.fnRunCommandsRow.inPlace == Tryz.prog.inPlace 3)) = true := by kernel_rfl
theorem jf10RowCO : ((Rows.fnRunCommandsRow.unfollowed == Tryz.prog.unfollowed 3)) = true := by kernel_rfl
theorem jf11RowCO : ((Rows.fnRunCommandsRow.recurses == Tryz.prog.recurses 3)) = true := by kernel_rfl
end Go.Proofs.YtnlhpkbphdbknaaGreatDoor
