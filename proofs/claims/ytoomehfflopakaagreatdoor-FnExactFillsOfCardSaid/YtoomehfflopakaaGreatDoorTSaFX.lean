/-
  Closing facts of a row, one theorem each.
-/
import Derived.Test.YtoomehfflopakaaGreatDoorTB
import Derived.Test.YtoomehfflopakaaGreatDoorCards
import Derived.Test.YtoomehfflopakaaGreatDoorTie
import Derived.ProofKit
import Derived.LaidMore
import Derived.Lay
import Derived.OpenShut
import Derived.Stop.Joined
import Derived.SevenTiedAt
namespace Go.Proofs.YtoomehfflopakaaGreatDoor
open Go.ChangeShapes Go.WideShapes Go.ChangeAt Go.RowKit
theorem jf0RowFX : (Rows.fnExactFillsOfRow.wf (OpenSpec.ofChange Rows.fnExactFillsOfSpec)) = true := by kernel_rfl
theorem jf1RowFX : (laidOutB Tryz.prog) = true := by kernel_rfl
theorem jf2RowFX : (mapsRowed Tryz.prog) = true := by kernel_rfl
theorem jf3RowFX : (Tryz.f3.params.all (Tryz.prog.readableRec ·)) = true := by kernel_rfl
theorem jf4RowFX : (namedTie Tryz.prog Rows.fnExactFillsOfRow.named Rows.fnExactFillsOfSpec.vars) = true := by kernel_rfl
theorem jf5RowFX : ((Rows.fnExactFillsOfRow.stops == [])) = true := by kernel_rfl
theorem jf6RowFX : ((Tryz.prog.stops == [])) = true := by kernel_rfl
theorem jf7RowFX : ((Rows.fnExactFillsOfRow.knobs == [])) = true := by kernel_rfl
theorem jf8RowFX : ((Tryz.prog.stopKnobs == [])) = true := by kernel_rfl
theorem jf9RowFX : ((Rows.fnExactFillsOfRow.inPlace == Tryz.prog.inPlace 3)) = true := by kernel_rfl
theorem jf10RowFX : ((Rows.fnExactFillsOfRow.unfollowed == Tryz.prog.unfollowed 3)) = true := by kernel_rfl
theorem jf11RowFX : ((Rows.fnExactFillsOfRow.recurses == Tryz.prog.recurses 3)) = true := by kernel_rfl
end Go.Proofs.YtoomehfflopakaaGreatDoor
