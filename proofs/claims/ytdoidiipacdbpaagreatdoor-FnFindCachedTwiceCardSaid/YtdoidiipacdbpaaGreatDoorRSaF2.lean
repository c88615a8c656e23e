/-
  Closing facts of a row, one theorem each.
-/
import Derived.Test.YtdoidiipacdbpaaGreatDoorRB
import Derived.Test.YtdoidiipacdbpaaGreatDoorCards
import Derived.Test.YtdoidiipacdbpaaGreatDoorTie
import Derived.ProofKit
import Derived.LaidMore
import Derived.Lay
import Derived.OpenShut
import Derived.Stop.Joined
import Derived.SevenTiedAt
namespace Go.Proofs.YtdoidiipacdbpaaGreatDoor
open Go.ChangeShapes Go.WideShapes Go.ChangeAt Go.RowKit
theorem jf0RowF2 : (Rows.fnFindCachedTwiceRow.wf (OpenSpec.ofChange Rows.fnFindCachedTwiceSpec)) = true := by kernel_rfl
theorem jf1RowF2 : (laidOutB Tryz.prog) = true := by kernel_rfl
theorem jf2RowF2 : (mapsRowed Tryz.prog) = true := by kernel_rfl
theorem jf3RowF2 : (Tryz.f5.params.all (Tryz.prog.readableRec ·)) = true := by kernel_rfl
theorem jf4RowF2 : (namedTie Tryz.prog Rows.fnFindCachedTwiceRow.named Rows.fnFindCachedTwiceSpec.vars) = true := by kernel_rfl
theorem jf5RowF2 : ((Rows.fnFindCachedTwiceRow.stops == [])) = true := by kernel_rfl
theorem jf6RowF2 : ((Tryz.prog.stops == [])) = true := by kernel_rfl
theorem jf7RowF2 : ((Rows.fnFindCachedTwiceRow.knobs == [])) = true := by kernel_rfl
theorem jf8RowF2 : ((Tryz.prog.stopKnobs == [])) = true := by kernel_rfl
theorem jf9RowF2 : ((Rows.fnFindCachedTwiceRow.inPlace == Tryz.prog.inPlace 5)) = true := by kernel_rfl
theorem jf10RowF2 : ((Rows.fnFindCachedTwiceRow.unfollowed == Tryz.prog.unfollowed 5)) = true := by kernel_rfl
theorem jf11RowF2 : ((Rows.fnFindCachedTwiceRow.recurses == Tryz.prog.recurses 5)) = true := by kernel_rfl
end Go.Proofs.YtdoidiipacdbpaaGreatDoor
