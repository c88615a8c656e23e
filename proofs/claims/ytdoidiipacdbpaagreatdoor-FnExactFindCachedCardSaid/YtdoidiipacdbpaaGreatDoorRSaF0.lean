/-
  Closing facts of a row, one theorem each.
-/
import Derived.Test.YtdoidiipacdbpaaGreatDoorRB
import Derived.Test.YtdoidiipacdbpaaGreatDoorCards
import Derived.Test.YtdoidiipacdbpaaGreatDoorTie
import Derived.ProofKit
import Derived.LaidMore
import Derived.Lay
import Derived.OpenShut
import Derived.Stop.Joined
import Derived.SevenTiedAt
namespace Go.Proofs.YtdoidiipacdbpaaGreatDoor
open Go.ChangeShapes Go.WideShapes Go.ChangeAt Go.RowKit
theorem jf0RowF0 : (Rows.fnExactFindCachedRow.wf (OpenSpec.ofChange Rows.fnExactFindCachedSpec)) = true := by kernel_rfl
theorem jf1RowF0 : (laidOutB Tryz.prog) = true := by kernel_rfl
theorem jf2RowF0 : (mapsRowed Tryz.prog) = true := by kernel_rfl
theorem jf3RowF0 : (Tryz.f3.params.all (Tryz.prog.readableRec ·)) = true := by kernel_rfl
theorem jf4RowF0 : (namedTie Tryz.prog Rows.fnExactFindCachedRow.named Rows.fnExactFindCachedSpec.vars) = true := by kernel_rfl
theorem jf5RowF0 : ((Rows.fnExactFindCachedRow.stops == [])) = true := by kernel_rfl
theorem jf6RowF0 : ((Tryz.prog.stops == [])) = true := by kernel_rfl
theorem jf7RowF0 : ((Rows.fnExactFindCachedRow.knobs == [])) = true := by kernel_rfl
theorem jf8RowF0 : ((Tryz.prog.stopKnobs == [])) = true := by kernel_rfl
theorem jf9RowF0 : ((Rows.fnExactFindCachedRow.inPlace == Tryz.prog.inPlace 3)) = true := by kernel_rfl
theorem jf10RowF0 : ((Rows.fnExactFindCachedRow.unfollowed == Tryz.prog.unfollowed 3)) = true := by kernel_rfl
theorem jf11RowF0 : ((Rows.fnExactFindCachedRow.recurses == Tryz.prog.recurses 3)) = true := by kernel_rfl
end Go.Proofs.YtdoidiipacdbpaaGreatDoor
