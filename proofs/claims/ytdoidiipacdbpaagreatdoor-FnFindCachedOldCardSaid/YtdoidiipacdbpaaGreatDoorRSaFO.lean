/-
  Closing facts of a row, one theorem each.
-/
import Derived.Test.YtdoidiipacdbpaaGreatDoorRB
import Derived.Test.YtdoidiipacdbpaaGreatDoorCards
import Derived.Test.YtdoidiipacdbpaaGreatDoorTie
import Derived.ProofKit
import Derived.LaidMore
import Derived.Lay
import Derived.OpenShut
import Derived.Stop.Joined
import Derived.SevenTiedAt
namespace Go.Proofs.YtdoidiipacdbpaaGreatDoor
open Go.ChangeShapes Go.WideShapes Go.ChangeAt Go.RowKit
theorem jf0RowFO : (Rows.fnFindCachedOldRow.wf (OpenSpec.ofChange Rows.fnFindCachedOldSpec)) = true := by kernel_rfl
theorem jf1RowFO : (laidOutB Tryz.prog) = true := by kernel_rfl
theorem jf2RowFO : (mapsRowed Tryz.prog) = true := by kernel_rfl
theorem jf3RowFO : (Tryz.f6.params.all (Tryz.prog.readableRec ·)) = true := by kernel_rfl
theorem jf4RowFO : (namedTie Tryz.prog Rows.fnFindCachedOldRow.named Rows.fnFindCachedOldSpec.vars) = true := by kernel_rfl
theorem jf5RowFO : ((Rows.fnFindCachedOldRow.stops == [])) = true := by kernel_rfl
theorem jf6RowFO : ((Tryz.prog.stops == [])) = true := by kernel_rfl
theorem jf7RowFO : ((Rows.fnFindCachedOldRow.knobs == [])) = true := by kernel_rfl
theorem jf8RowFO : ((Tryz.prog.stopKnobs == [])) = true := by kernel_rfl
theorem jf9RowFO : ((Rows.fnFindCachedOldRow.inPlace == Tryz.prog.inPlace 6)) = true := by kernel_rfl
theorem jf10RowFO : ((Rows.fnFindCachedOldRow.unfollowed == Tryz.prog.unfollowed 6)) = true := by kernel_rfl
theorem jf11RowFO : ((Rows.fnFindCachedOldRow.recurses == Tryz.prog.recurses 6)) = true := by kernel_rfl
end Go.Proofs.YtdoidiipacdbpaaGreatDoor
