/-
  Closing facts of a row, one theorem each.
-/
import Derived.Test.YtdoidiipacdbpaaGreatDoorRB
import Derived.Test.YtdoidiipacdbpaaGreatDoorCards
import Derived.Test.YtdoidiipacdbpaaGreatDoorTie
import Derived.ProofKit
import Derived.LaidMore
import Derived.Lay
import Derived.OpenShut
import Derived.Stop.Joined
import Derived.SevenTiedAt
namespace Go.Proofs.YtdoidiipacdbpaaGreatDoor
open Go.ChangeShapes Go.WideShapes Go.ChangeAt Go.RowKit
theorem jf0RowF1 : (Rows.fnFindCachedRow.wf (OpenSpec.ofChange Rows.fnFindCachedSpec)) = true := by kernel_rfl
theorem jf1RowF1 : (laidOutB Tryz.prog) = true := by kernel_rfl
theorem jf2RowF1 : (mapsRowed Tryz.prog) = true := by kernel_rfl
theorem jf3RowF1 : (Tryz.f4.params.all (Tryz.prog.readableRec ·)) = true := by kernel_rfl
theorem jf4RowF1 : (namedTie Tryz.prog Rows.fnFindCachedRow.named Rows.fnFindCachedSpec.vars) = true := by kernel_rfl
theorem jf5RowF1 : ((Rows.fnFindCachedRow.stops == [])) = true := by kernel_rfl
theorem jf6RowF1 : ((Tryz.prog.stops == [])) = true := by kernel_rfl
theorem jf7RowF1 : ((Rows.fnFindCachedRow.knobs == [])) = true := by kernel_rfl
theorem jf8RowF1 : ((Tryz.prog.stopKnobs == [])) = true := by kernel_rfl
theorem jf9RowF1 : ((Rows.fnFindCachedRow.inPlace == Tryz.prog.inPlace 4)) = true := by kernel_rfl
theorem jf10RowF1 : ((Rows.fnFindCachedRow.unfollowed == Tryz.prog.unfollowed 4)) = true := by kernel_rfl
theorem jf11RowF1 : ((Rows.fnFindCachedRow.recurses == Tryz.prog.recurses 4)) = true := by kernel_rfl
end Go.Proofs.YtdoidiipacdbpaaGreatDoor
