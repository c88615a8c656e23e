/-
  Closing facts of a row, one theorem each.
-/
import Derived.Test.YtoomehfflopakaaGreatDoorTB
import Derived.Test.YtoomehfflopakaaGreatDoorCards
import Derived.Test.YtoomehfflopakaaGreatDoorTie
import Derived.ProofKit
import Derived.LaidMore
import Derived.Lay
import Derived.OpenShut
import Derived.Stop.Joined
import Derived.SevenTiedAt
namespace Go.Proofs.YtoomehfflopakaaGreatDoor
open Go.ChangeShapes Go.WideShapes Go.ChangeAt Go.RowKit
theorem jf0RowRW : (Rows.fnExactRunWarmRow.wf (OpenSpec.ofChange Rows.fnExactRunWarmSpec)) = true := by kernel_rfl
theorem jf1RowRW : (laidOutB Tryz.prog) = true := by kernel_rfl
theorem jf2RowRW : (mapsRowed Tryz.prog) = true := by kernel_rfl
theorem jf3RowRW : (Tryz.f4.params.all (Tryz.prog.readableRec ·)) = true := by kernel_rfl
theorem jf4RowRW : (namedTie Tryz.prog Rows.fnExactRunWarmRow.named Rows.fnExactRunWarmSpec.vars) = true := by kernel_rfl
theorem jf5RowRW : ((Rows.fnExactRunWarmRow.stops == [])) = true := by kernel_rfl
theorem jf6RowRW : ((Tryz.prog.stops == [])) = true := by kernel_rfl
theorem jf7RowRW : ((Rows.fnExactRunWarmRow.knobs == [])) = true := by kernel_rfl
theorem jf8RowRW : ((Tryz.prog.stopKnobs == [])) = true := by kernel_rfl
theorem jf9RowRW : ((Rows.fnExactRunWarmRow.inPlace == Tryz.prog.inPlace 4)) = true := by kernel_rfl
theorem jf10RowRW : ((Rows.fnExactRunWarmRow.unfollowed == Tryz.prog.unfollowed 4)) = true := by kernel_rfl
theorem jf11RowRW : ((Rows.fnExactRunWarmRow.recurses == Tryz.prog.recurses 4)) = true := by kernel_rfl
end Go.Proofs.YtoomehfflopakaaGreatDoor
