/-
  Closing facts of a row, one theorem each.
-/
import Derived.Test.YtnlhpkbphdbknaaGreatDoorRB
import Derived.Test.YtnlhpkbphdbknaaGreatDoorCards
import Derived.Test.YtnlhpkbphdbknaaGreatDoorTie
import Derived.ProofKit
import Derived.LaidMore
import Derived.Lay
import Derived.OpenShut
import Derived.Stop.Joined
import Derived.SevenTiedAt
namespace Go.Proofs.YtnlhpkbphdbknaaGreatDoor
open Go.ChangeShapes Go.WideShapes Go.ChangeAt Go.RowKit
theorem jf0RowCT : (Rows.fnRunCommandsTwiceRow.wf (OpenSpec.ofChange Rows.fnRunCommandsTwiceSpec)) = true := by kernel_rfl
theorem jf1RowCT : (laidOutB Tryz.prog) = true := by kernel_rfl
theorem jf2RowCT : (mapsRowed Tryz.prog) = true := by kernel_rfl
theorem jf3RowCT : (Tryz.f4.params.all (Tryz.prog.readableRec ·)) = true := by kernel_rfl
theorem jf4RowCT : (namedTie Tryz.prog Rows.fnRunCommandsTwiceRow.named Rows.fnRunCommandsTwiceSpec.vars) = true := by kernel_rfl
theorem jf5RowCT : ((Rows.fnRunCommandsTwiceRow.stops == [])) = true := by kernel_rfl
theorem jf6RowCT : ((Tryz.prog.stops == [])) = true := by kernel_rfl
theorem jf7RowCT : ((Rows.fnRunCommandsTwiceRow.knobs == [])) = true := by kernel_rfl
theorem jf8RowCT : ((Tryz.prog.stopKnobs == [])) = true := by kernel_rfl
theorem jf9RowCT : ((Rows.fnRunCommandsTwiceRow.inPlace == Tryz.prog.inPlace 4)) = true := by kernel_rfl
theorem jf10RowCT : ((Rows.fnRunCommandsTwiceRow.unfollowed == Tryz.prog.unfollowed 4)) = true := by kernel_rfl
theorem jf11RowCT : ((Rows.fnRunCommandsTwiceRow.recurses == Tryz.prog.recurses 4)) = true := by kernel_rfl
end Go.Proofs.YtnlhpkbphdbknaaGreatDoor
