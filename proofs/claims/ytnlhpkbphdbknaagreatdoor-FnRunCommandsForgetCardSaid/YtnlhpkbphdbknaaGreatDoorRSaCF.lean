/-
  Closing facts of a row, one theorem each.
-/
import Derived.Test.YtnlhpkbphdbknaaGreatDoorRB
import Derived.Test.YtnlhpkbphdbknaaGreatDoorCards
import Derived.Test.YtnlhpkbphdbknaaGreatDoorTie
import Derived.ProofKit
import Derived.LaidMore
import Derived.Lay
import Derived.OpenShut
import Derived.Stop.Joined
import Derived.SevenTiedAt
namespace Go.Proofs.YtnlhpkbphdbknaaGreatDoor
open Go.ChangeShapes Go.WideShapes Go.ChangeAt Go.RowKit
theorem jf0RowCF : (Rows.fnRunCommandsForgetRow.wf (OpenSpec.ofChange Rows.fnRunCommandsForgetSpec)) = true := by kernel_rfl
theorem jf1RowCF : (laidOutB Tryz.prog) = true := by kernel_rfl
theorem jf2RowCF : (mapsRowed Tryz.prog) = true := by kernel_rfl
theorem jf3RowCF : (Tryz.f7.params.all (Tryz.prog.readableRec ·)) = true := by kernel_rfl
theorem jf4RowCF : (namedTie Tryz.prog Rows.fnRunCommandsForgetRow.named Rows.fnRunCommandsForgetSpec.vars) = true := by kernel_rfl
theorem jf5RowCF : ((Rows.fnRunCommandsForgetRow.stops == [])) = true := by kernel_rfl
theorem jf6RowCF : ((Tryz.prog.stops == [])) = true := by kernel_rfl
theorem jf7RowCF : ((Rows.fnRunCommandsForgetRow.knobs == [])) = true := by kernel_rfl
theorem jf8RowCF : ((Tryz.prog.stopKnobs == [])) = true := by kernel_rfl
theorem jf9RowCF : ((Rows.fnRunCommandsForgetRow.inPlace == Tryz.prog.inPlace 7)) = true := by kernel_rfl
theorem jf10RowCF : ((Rows.fnRunCommandsForgetRow.unfollowed == Tryz.prog.unfollowed 7)) = true := by kernel_rfl
theorem jf11RowCF : ((Rows.fnRunCommandsForgetRow.recurses == Tryz.prog.recurses 7)) = true := by kernel_rfl
end Go.Proofs.YtnlhpkbphdbknaaGreatDoor
