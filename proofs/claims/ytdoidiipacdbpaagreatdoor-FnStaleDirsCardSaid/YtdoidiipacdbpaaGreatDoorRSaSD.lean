/-
  Closing facts of a row, one theorem each.
-/
import Derived.Test.YtdoidiipacdbpaaGreatDoorRB
import Derived.Test.YtdoidiipacdbpaaGreatDoorCards
import Derived.Test.YtdoidiipacdbpaaGreatDoorTie
import Derived.ProofKit
import Derived.LaidMore
import Derived.Lay
import Derived.OpenShut
import Derived.Stop.Joined
import Derived.SevenTiedAt
namespace Go.Proofs.YtdoidiipacdbpaaGreatDoor
open Go.ChangeShapes Go.WideShapes Go.ChangeAt Go.RowKit
theorem jf0RowSD : (Rows.fnStaleDirsRow.wf (OpenSpec.ofChange Rows.fnStaleDirsSpec)) = true := by kernel_rfl
theorem jf1RowSD : (laidOutB Tryz.prog) = true := by kernel_rfl
theorem jf2RowSD : (mapsRowed Tryz.prog) = true := by kernel_rfl
theorem jf3RowSD : (Tryz.f7.params.all (Tryz.prog.readableRec ·)) = true := by kernel_rfl
theorem jf4RowSD : (namedTie Tryz.prog Rows.fnStaleDirsRow.named Rows.fnStaleDirsSpec.vars) = true := by kernel_rfl
theorem jf5RowSD : ((Rows.fnStaleDirsRow.stops == [])) = true := by kernel_rfl
theorem jf6RowSD : ((Tryz.prog.stops == [])) = true := by kernel_rfl
theorem jf7RowSD : ((Rows.fnStaleDirsRow.knobs == [])) = true := by kernel_rfl
theorem jf8RowSD : ((Tryz.prog.stopKnobs == [])) = true := by kernel_rfl
theorem jf9RowSD : ((Rows.fnStaleDirsRow.inPlace == Tryz.prog.inPlace 7)) = true := by kernel_rfl
theorem jf10RowSD : ((Rows.fnStaleDirsRow.unfollowed == Tryz.prog.unfollowed 7)) = true := by kernel_rfl
theorem jf11RowSD : ((Rows.fnStaleDirsRow.recurses == Tryz.prog.recurses 7)) = true := by kernel_rfl
end Go.Proofs.YtdoidiipacdbpaaGreatDoor
