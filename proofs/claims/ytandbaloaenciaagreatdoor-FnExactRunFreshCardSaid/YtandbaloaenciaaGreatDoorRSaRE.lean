/-
  Closing facts of a row, one theorem each.
-/
import Derived.Test.YtandbaloaenciaaGreatDoorRB
import Derived.Test.YtandbaloaenciaaGreatDoorCards
import Derived.Test.YtandbaloaenciaaGreatDoorTie
import Derived.ProofKit
import Derived.LaidMore
import Derived.Lay
import Derived.OpenShut
import Derived.Stop.Joined
import Derived.SevenTiedAt
namespace Go.Proofs.YtandbaloaenciaaGreatDoor
open Go.ChangeShapes Go.WideShapes Go.ChangeAt Go.RowKit
theorem jf0RowRE : (Rows.fnExactRunFreshRow.wf (OpenSpec.ofChange Rows.fnExactRunFreshSpec)) = true := by kernel_rfl
theorem jf1RowRE : (laidOutB Tryz.prog) = true := by kernel_rfl
theorem jf2RowRE : (mapsRowed Tryz.prog) = true := by kernel_rfl
theorem jf3RowRE : (Tryz.f5.params.all (Tryz.prog.readableRec ·)) = true := by kernel_rfl
theorem jf4RowRE : (namedTie Tryz.prog Rows.fnExactRunFreshRow.named Rows.fnExactRunFreshSpec.vars) = true := by kernel_rfl
theorem jf5RowRE : ((Rows.fnExactRunFreshRow.stops == [])) = true := by kernel_rfl
theorem jf6RowRE : ((Tryz.prog.stops == [])) = true := by kernel_rfl
theorem jf7RowRE : ((Rows.fnExactRunFreshRow.knobs == [])) = true := by kernel_rfl
theorem jf8RowRE : ((Tryz.prog.stopKnobs == [])) = true := by kernel_rfl
theorem jf9RowRE : ((Rows.fnExactRunFreshRow.inPlace == Tryz.prog.inPlace 5)) = true := by kernel_rfl
theorem jf10RowRE : ((Rows.fnExactRunFreshRow.unfollowed == Tryz.prog.unfollowed 5)) = true := by kernel_rfl
theorem jf11RowRE : ((Rows.fnExactRunFreshRow.recurses == Tryz.prog.recurses 5)) = true := by kernel_rfl
end Go.Proofs.YtandbaloaenciaaGreatDoor
