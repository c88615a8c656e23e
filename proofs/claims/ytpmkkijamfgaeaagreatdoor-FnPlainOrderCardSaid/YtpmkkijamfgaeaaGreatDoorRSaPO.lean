/-
  Closing facts of a row, one theorem each.
-/
import Derived.Test.YtpmkkijamfgaeaaGreatDoorRB
import Derived.Test.YtpmkkijamfgaeaaGreatDoorCards
import Derived.Test.YtpmkkijamfgaeaaGreatDoorTie
import Derived.ProofKit
import Derived.LaidMore
import Derived.Lay
import Derived.OpenShut
import Derived.Stop.Joined
import Derived.SevenTiedAt
namespace Go.Proofs.YtpmkkijamfgaeaaGreatDoor
open Go.ChangeShapes Go.WideShapes Go.ChangeAt Go.RowKit
theorem jf0RowPO : (Rows.fnPlainOrderRow.wf (OpenSpec.ofChange Rows.fnPlainOrderSpec)) = true := by kernel_rfl
theorem jf1RowPO : (laidOutB Tryz.prog) = true := by kernel_rfl
theorem jf2RowPO : (mapsRowed Tryz.prog) = true := by kernel_rfl
theorem jf3RowPO : (Tryz.f5.params.all (Tryz.prog.readableRec ·)) = true := by kernel_rfl
theorem jf4RowPO : (namedTie Tryz.prog Rows.fnPlainOrderRow.named Rows.fnPlainOrderSpec.vars) = true := by kernel_rfl
theorem jf5RowPO : ((Rows.fnPlainOrderRow.stops == [])) = true := by kernel_rfl
theorem jf6RowPO : ((Tryz.prog.stops == [])) = true := by kernel_rfl
theorem jf7RowPO : ((Rows.fnPlainOrderRow.knobs == [])) = true := by kernel_rfl
theorem jf8RowPO : ((Tryz.prog.stopKnobs == [])) = true := by kernel_rfl
theorem jf9RowPO : ((Rows.fnPlainOrderRow.inPlace == Tryz.prog.inPlace 5)) = true := by kernel_rfl
theorem jf10RowPO : ((Rows.fnPlainOrderRow.unfollowed == Tryz.prog.unfollowed 5)) = true := by kernel_rfl
theorem jf11RowPO : ((Rows.fnPlainOrderRow.recurses == Tryz.prog.recurses 5)) = true := by kernel_rfl
end Go.Proofs.YtpmkkijamfgaeaaGreatDoor
