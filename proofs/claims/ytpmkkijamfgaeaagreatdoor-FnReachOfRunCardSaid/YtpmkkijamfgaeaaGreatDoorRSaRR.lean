/-
  Closing facts of a row, one theorem each.
-/
import Derived.Test.YtpmkkijamfgaeaaGreatDoorRB
import Derived.Test.YtpmkkijamfgaeaaGreatDoorCards
import Derived.Test.YtpmkkijamfgaeaaGreatDoorTie
import Derived.ProofKit
import Derived.LaidMore
import Derived.Lay
import Derived.OpenShut
import Derived.Stop.Joined
import Derived.SevenTiedAt
namespace Go.Proofs.YtpmkkijamfgaeaaGreatDoor
open Go.ChangeShapes Go.WideShapes Go.ChangeAt Go.RowKit
theorem jf0RowRR : (Rows.fnReachOfRunRow.wf (OpenSpec.ofChange Rows.fnReachOfRunSpec)) = true := by kernel_rfl
theorem jf1RowRR : (laidOutB Tryz.prog) = true := by kernel_rfl
theorem jf2RowRR : (mapsRowed Tryz.prog) = true := by kernel_rfl
theorem jf3RowRR : (Tryz.f3.params.all (Tryz.prog.readableRec ·)) = true := by kernel_rfl
theorem jf4RowRR : (namedTie Tryz.prog Rows.fnReachOfRunRow.named Rows.fnReachOfRunSpec.vars) = true := by kernel_rfl
theorem jf5RowRR : ((Rows.fnReachOfRunRow.stops == [])) = true := by kernel_rfl
theorem jf6RowRR : ((Tryz.prog.stops == [])) = true := by kernel_rfl
theorem jf7RowRR : ((Rows.fnReachOfRunRow.knobs == [])) = true := by kernel_rfl
theorem jf8RowRR : ((Tryz.prog.stopKnobs == [])) = true := by kernel_rfl
theorem jf9RowRR : ((Rows.fnReachOfRunRow.inPlace == Tryz.prog.inPlace 3)) = true := by kernel_rfl
theorem jf10RowRR : ((Rows.fnReachOfRunRow.unfollowed == Tryz.prog.unfollowed 3)) = true := by kernel_rfl
theorem jf11RowRR : ((Rows.fnReachOfRunRow.recurses == Tryz.prog.recurses 3)) = true := by kernel_rfl
end Go.Proofs.YtpmkkijamfgaeaaGreatDoor
