/-
  Closing facts of a row, one theorem each.
-/
import Derived.Test.YtnlhpkbphdbknaaGreatDoorRB
import Derived.Test.YtnlhpkbphdbknaaGreatDoorCards
import Derived.Test.YtnlhpkbphdbknaaGreatDoorTie
import Derived.ProofKit
import Derived.LaidMore
import Derived.Lay
import Derived.OpenShut
import Derived.Stop.Joined
import Derived.SevenTiedAt
namespace Go.Proofs.YtnlhpkbphdbknaaGreatDoor
open Go.ChangeShapes Go.WideShapes Go.ChangeAt Go.RowKit
theorem jf0RowCR : (Rows.fnRunCommandsReloadRow.wf (OpenSpec.ofChange Rows.fnRunCommandsReloadSpec)) = true := by kernel_rfl
theorem jf1RowCR : (laidOutB Tryz.prog) = true := by kernel_rfl
theorem jf2RowCR : (mapsRowed Tryz.prog) = true := by kernel_rfl
theorem jf3RowCR : (Tryz.f8.params.all (Tryz.prog.readableRec ·)) = true := by kernel_rfl
theorem jf4RowCR : (namedTie Tryz.prog Rows.fnRunCommandsReloadRow.named Rows.fnRunCommandsReloadSpec.vars) = true := by kernel_rfl
theorem jf5RowCR : ((Rows.fnRunCommandsReloadRow.stops == [])) = true := by kernel_rfl
theorem jf6RowCR : ((Tryz.prog.stops == [])) = true := by kernel_rfl
theorem jf7RowCR : ((Rows.fnRunCommandsReloadRow.knobs == [])) = true := by kernel_rfl
theorem jf8RowCR : ((Tryz.prog.stopKnobs == [])) = true := by kernel_rfl
theorem jf9RowCR : ((Rows.fnRunCommandsReloadRow.inPlace == Tryz.prog.inPlace 8)) = true := by kernel_rfl
theorem jf10RowCR : ((Rows.fnRunCommandsReloadRow.unfollowed == Tryz.prog.unfollowed 8)) = true := by kernel_rfl
theorem jf11RowCR : ((Rows.fnRunCommandsReloadRow.recurses == Tryz.prog.recurses 8)) = true := by kernel_rfl
end Go.Proofs.YtnlhpkbphdbknaaGreatDoor
