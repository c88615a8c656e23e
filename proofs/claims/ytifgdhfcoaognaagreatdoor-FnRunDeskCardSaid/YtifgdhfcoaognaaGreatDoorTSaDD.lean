/-
  Closing facts of a row, one theorem each.
-/
import Derived.Test.YtifgdhfcoaognaaGreatDoorTB
import Derived.Test.YtifgdhfcoaognaaGreatDoorCards
import Derived.Test.YtifgdhfcoaognaaGreatDoorTie
import Derived.ProofKit
import Derived.LaidMore
import Derived.Lay
import Derived.OpenShut
import Derived.Stop.Joined
import Derived.SevenTiedAt
import Derived.OpenVars
namespace Go.Proofs.YtifgdhfcoaognaaGreatDoor
open Go.ChangeShapes Go.WideShapes Go.ChangeAt Go.RowKit
theorem jf0RowDD : (Rows.fnRunDeskRow.wf (OpenSpec.ofChange Rows.fnRunDeskSpec)) = true := by kernel_rfl
theorem jf1RowDD : (laidOutB Tryz.prog) = true := by kernel_rfl
theorem jf2RowDD : (mapsRowed Tryz.prog) = true := by kernel_rfl
theorem jf3RowDD : (Tryz.f3.params.all (Tryz.prog.readableRec ·)) = true := by kernel_rfl
theorem jf4RowDD : (namedTie Tryz.prog Rows.fnRunDeskRow.named Rows.fnRunDeskSpec.vars) = true := by kernel_rfl
theorem jf5RowDD : ((Rows.fnRunDeskRow.stops == [])) = true := by kernel_rfl
theorem jf6RowDD : ((Tryz.prog.stops == [])) = true := by kernel_rfl
theorem jf7RowDD : ((Rows.fnRunDeskRow.knobs == [])) = true := by kernel_rfl
theorem jf8RowDD : ((Tryz.prog.stopKnobs == [])) = true := by kernel_rfl
theorem jf9RowDD : ((Rows.fnRunDeskRow.inPlace == Tryz.prog.inPlace 3)) = true := by kernel_rfl
theorem jf10RowDD : ((Rows.fnRunDeskRow.unfollowed == Tryz.prog.unfollowed 3)) = true := by kernel_rfl
theorem jf11RowDD : ((Rows.fnRunDeskRow.recurses == Tryz.prog.recurses 3)) = true := by kernel_rfl
end Go.Proofs.YtifgdhfcoaognaaGreatDoor
