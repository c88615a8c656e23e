/-
  Closing facts of a row, one theorem each.
-/
import Derived.Test.YtandbaloaenciaaGreatDoorRB
import Derived.Test.YtandbaloaenciaaGreatDoorCards
import Derived.Test.YtandbaloaenciaaGreatDoorTie
import Derived.ProofKit
import Derived.LaidMore
import Derived.Lay
import Derived.OpenShut
import Derived.Stop.Joined
import Derived.SevenTiedAt
namespace Go.Proofs.YtandbaloaenciaaGreatDoor
open Go.ChangeShapes Go.WideShapes Go.ChangeAt Go.RowKit
theorem jf0RowRF : (Rows.fnRunFreshRow.wf (OpenSpec.ofChange Rows.fnRunFreshSpec)) = true := by kernel_rfl
theorem jf1RowRF : (laidOutB Tryz.prog) = true := by kernel_rfl
theorem jf2RowRF : (mapsRowed Tryz.prog) = true := by kernel_rfl
theorem jf3RowRF : (Tryz.f4.params.all (Tryz.prog.readableRec ·)) = true := by kernel_rfl
theorem jf4RowRF : (namedTie Tryz.prog Rows.fnRunFreshRow.named Rows.fnRunFreshSpec.vars) = true := by kernel_rfl
theorem jf5RowRF : ((Rows.fnRunFreshRow.stops == [])) = true := by kernel_rfl
theorem jf6RowRF : ((Tryz.prog.stops == [])) = true := by kernel_rfl
theorem jf7RowRF : ((Rows.fnRunFreshRow.knobs == [])) = true := by kernel_rfl
theorem jf8RowRF : ((Tryz.prog.stopKnobs == [])) = true := by kernel_rfl
theorem jf9RowRF : ((Rows.fnRunFreshRow.inPlace == Tryz.prog.inPlace 4)) = true := by kernel_rfl
theorem jf10RowRF : ((Rows.fnRunFreshRow.unfollowed == Tryz.prog.unfollowed 4)) = true := by kernel_rfl
theorem jf11RowRF : ((Rows.fnRunFreshRow.recurses == Tryz.prog.recurses 4)) = true := by kernel_rfl
end Go.Proofs.YtandbaloaenciaaGreatDoor
