/-
  Closing facts of a row, one theorem each.
-/
import Derived.Test.YtpmkkijamfgaeaaGreatDoorRB
import Derived.Test.YtpmkkijamfgaeaaGreatDoorCards
import Derived.Test.YtpmkkijamfgaeaaGreatDoorTie
import Derived.ProofKit
import Derived.LaidMore
import Derived.Lay
import Derived.OpenShut
import Derived.Stop.Joined
import Derived.SevenTiedAt
namespace Go.Proofs.YtpmkkijamfgaeaaGreatDoor
open Go.ChangeShapes Go.WideShapes Go.ChangeAt Go.RowKit
theorem jf0RowSI : (Rows.fnIsSimpleRow.wf (OpenSpec.ofChange Rows.fnIsSimpleSpec)) = true := by kernel_rfl
theorem jf1RowSI : (laidOutB Tryz.prog) = true := by kernel_rfl
theorem jf2RowSI : (mapsRowed Tryz.prog) = true := by kernel_rfl
theorem jf3RowSI : (Tryz.f4.params.all (Tryz.prog.readableRec ·)) = true := by kernel_rfl
theorem jf4RowSI : (namedTie Tryz.prog Rows.fnIsSimpleRow.named Rows.fnIsSimpleSpec.vars) = true := by kernel_rfl
theorem jf5RowSI : ((Rows.fnIsSimpleRow.stops == [])) = true := by kernel_rfl
theorem jf6RowSI : ((Tryz.prog.stops == [])) = true := by kernel_rfl
theorem jf7RowSI : ((Rows.fnIsSimpleRow.knobs == [])) = true := by kernel_rfl
theorem jf8RowSI : ((Tryz.prog.stopKnobs == [])) = true := by kernel_rfl
theorem jf9RowSI : ((Rows.fnIsSimpleRow.inPlace == Tryz.prog.inPlace 4)) = true := by kernel_rfl
theorem jf10RowSI : ((Rows.fnIsSimpleRow.unfollowed == Tryz.prog.unfollowed 4)) = true := by kernel_rfl
theorem jf11RowSI : ((Rows.fnIsSimpleRow.recurses == Tryz.prog.recurses 4)) = true := by kernel_rfl
end Go.Proofs.YtpmkkijamfgaeaaGreatDoor
