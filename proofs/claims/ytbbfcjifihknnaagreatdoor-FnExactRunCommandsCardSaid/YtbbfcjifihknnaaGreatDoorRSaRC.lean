/-
  Closing facts of a row, one theorem each.
-/
import Derived.Test.YtbbfcjifihknnaaGreatDoorRB
import Derived.Test.YtbbfcjifihknnaaGreatDoorCards
import Derived.Test.YtbbfcjifihknnaaGreatDoorTie
import Derived.ProofKit
import Derived.LaidMore
import Derived.Lay
import Derived.OpenShut
import Derived.Stop.Joined
import Derived.SevenTiedAt
namespace Go.Proofs.YtbbfcjifihknnaaGreatDoor
open Go.ChangeShapes Go.WideShapes Go.ChangeAt Go.RowKit
theorem jf0RowRC : (Rows.fnExactRunCommandsRow.wf (OpenSpec.ofChange Rows.fnExactRunCommandsSpec)) = true := by kernel_rfl
theorem jf1RowRC : (laidOutB Tryz.prog) = true := by kernel_rfl
theorem jf2RowRC : (mapsRowed Tryz.prog) = true := by kernel_rfl
theorem jf3RowRC : (Tryz.f3.params.all (Tryz.prog.readableRec ·)) = true := by kernel_rfl
theorem jf4RowRC : (namedTie Tryz.prog Rows.fnExactRunCommandsRow.named Rows.fnExactRunCommandsSpec.vars) = true := by kernel_rfl
theorem jf5RowRC : ((Rows.fnExactRunCommandsRow.stops == [])) = true := by kernel_rfl
theorem jf6RowRC : ((Tryz.prog.stops == [])) = true := by kernel_rfl
theorem jf7RowRC : ((Rows.fnExactRunCommandsRow.knobs == [])) = true := by kernel_rfl
theorem jf8RowRC : ((Tryz.prog.stopKnobs == [])) = true := by kernel_rfl
theorem jf9RowRC : ((Rows.fnExactRunCommandsRow.inPlace == Tryz.prog.inPlace 3)) = true := by kernel_rfl
theorem jf10RowRC : ((Rows.fnExactRunCommandsRow.unfollowed == Tryz.prog.unfollowed 3)) = true := by kernel_rfl
theorem jf11RowRC : ((Rows.fnExactRunCommandsRow.recurses == Tryz.prog.recurses 3)) = true := by kernel_rfl
end Go.Proofs.YtbbfcjifihknnaaGreatDoor
