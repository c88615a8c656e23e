/-
  Closing facts of a row, one theorem each.
-/
import Derived.Test.YtnlhpkbphdbknaaGreatDoorRB
import Derived.Test.YtnlhpkbphdbknaaGreatDoorCards
import Derived.Test.YtnlhpkbphdbknaaGreatDoorTie
import Derived.ProofKit
import Derived.LaidMore
import Derived.Lay
import Derived.OpenShut
import Derived.Stop.Joined
import Derived.SevenTiedAt
namespace Go.Proofs.YtnlhpkbphdbknaaGreatDoor
open Go.ChangeShapes Go.WideShapes Go.ChangeAt Go.RowKit
theorem jf0RowCL : (Rows.fnRunCommandsLogRow.wf (OpenSpec.ofChange Rows.fnRunCommandsLogSpec)) = true := by kernel_rfl
theorem jf1RowCL : (laidOutB Tryz.prog) = true := by kernel_rfl
theorem jf2RowCL : (mapsRowed Tryz.prog) = true := by kernel_rfl
theorem jf3RowCL : (Tryz.f5.params.all (Tryz.prog.readableRec ·)) = true := by kernel_rfl
theorem jf4RowCL : (namedTie Tryz.prog Rows.fnRunCommandsLogRow.named Rows.fnRunCommandsLogSpec.vars) = true := by kernel_rfl
theorem jf5RowCL : ((Rows.fnRunCommandsLogRow.stops == [])) = true := by kernel_rfl
theorem jf6RowCL : ((Tryz.prog.stops == [])) = true := by kernel_rfl
theorem jf7RowCL : ((Rows.fnRunCommandsLogRow.knobs == [])) = true := by kernel_rfl
theorem jf8RowCL : ((Tryz.prog.stopKnobs == [])) = true := by kernel_rfl
theorem jf9RowCL : ((Rows.fnRunCommandsLogRow.inPlace == Tryz.prog.inPlace 5)) = true := by kernel_rfl
theorem jf10RowCL : ((Rows.fnRunCommandsLogRow.unfollowed == Tryz.prog.unfollowed 5)) = true := by kernel_rfl
theorem jf11RowCL : ((Rows.fnRunCommandsLogRow.recurses == Tryz.prog.recurses 5)) = true := by kernel_rfl
end Go.Proofs.YtnlhpkbphdbknaaGreatDoor
