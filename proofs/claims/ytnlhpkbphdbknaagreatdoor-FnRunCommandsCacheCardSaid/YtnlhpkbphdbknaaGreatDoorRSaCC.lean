/-
  Closing facts of a row, one theorem each.
-/
import Derived.Test.YtnlhpkbphdbknaaGreatDoorRB
import Derived.Test.YtnlhpkbphdbknaaGreatDoorCards
import Derived.Test.YtnlhpkbphdbknaaGreatDoorTie
import Derived.ProofKit
import Derived.LaidMore
import Derived.Lay
import Derived.OpenShut
import Derived.Stop.Joined
import Derived.SevenTiedAt
namespace Go.Proofs.YtnlhpkbphdbknaaGreatDoor
open Go.ChangeShapes Go.WideShapes Go.ChangeAt Go.RowKit
theorem jf0RowCC : (Rows.fnRunCommandsCacheRow.wf (OpenSpec.ofChange Rows.fnRunCommandsCacheSpec)) = true := by kernel_rfl
theorem jf1RowCC : (laidOutB Tryz.prog) = true := by kernel_rfl
theorem jf2RowCC : (mapsRowed Tryz.prog) = true := by kernel_rfl
theorem jf3RowCC : (Tryz.f6.params.all (Tryz.prog.readableRec ·)) = true := by kernel_rfl
theorem jf4RowCC : (namedTie Tryz.prog Rows.fnRunCommandsCacheRow.named Rows.fnRunCommandsCacheSpec.vars) = true := by kernel_rfl
theorem jf5RowCC : ((Rows.fnRunCommandsCacheRow.stops == [])) = true := by kernel_rfl
theorem jf6RowCC : ((Tryz.prog.stops == [])) = true := by kernel_rfl
theorem jf7RowCC : ((Rows.fnRunCommandsCacheRow.knobs == [])) = true := by kernel_rfl
theorem jf8RowCC : ((Tryz.prog.stopKnobs == [])) = true := by kernel_rfl
theorem jf9RowCC : ((Rows.fnRunCommandsCacheRow.inPlace == Tryz.prog.inPlace 6)) = true := by kernel_rfl
theorem jf10RowCC : ((Rows.fnRunCommandsCacheRow.unfollowed == Tryz.prog.unfollowed 6)) = true := by kernel_rfl
theorem jf11RowCC : ((Rows.fnRunCommandsCacheRow.recurses == Tryz.prog.recurses 6)) = true := by kernel_rfl
end Go.Proofs.YtnlhpkbphdbknaaGreatDoor
