/-
  Closing facts of a row, one theorem each.
-/
import Derived.Test.YtobplpdjkfbfoaaGreatDoorRB
import Derived.Test.YtobplpdjkfbfoaaGreatDoorCards
import Derived.Test.YtobplpdjkfbfoaaGreatDoorTie
import Derived.ProofKit
import Derived.LaidMore
import Derived.Lay
import Derived.OpenShut
import Derived.Stop.Joined
import Derived.SevenTiedAt
namespace Go.Proofs.YtobplpdjkfbfoaaGreatDoor
open Go.ChangeShapes Go.WideShapes Go.ChangeAt Go.RowKit
theorem jf0RowXP : (Rows.fnExactPlainOrderRow.wf (OpenSpec.ofChange Rows.fnExactPlainOrderSpec)) = true := by kernel_rfl
theorem jf1RowXP : (laidOutB Tryz.prog) = true := by kernel_rfl
theorem jf2RowXP : (mapsRowed Tryz.prog) = true := by kernel_rfl
theorem jf3RowXP : (Tryz.f6.params.all (Tryz.prog.readableRec ·)) = true := by kernel_rfl
theorem jf4RowXP : (namedTie Tryz.prog Rows.fnExactPlainOrderRow.named Rows.fnExactPlainOrderSpec.vars) = true := by kernel_rfl
theorem jf5RowXP : ((Rows.fnExactPlainOrderRow.stops == [])) = true := by kernel_rfl
theorem jf6RowXP : ((Tryz.prog.stops == [])) = true := by kernel_rfl
theorem jf7RowXP : ((Rows.fnExactPlainOrderRow.knobs == [])) = true := by kernel_rfl
theorem jf8RowXP : ((Tryz.prog.stopKnobs == [])) = true := by kernel_rfl
theorem jf9RowXP : ((Rows.fnExactPlainOrderRow.inPlace == Tryz.prog.inPlace 6)) = true := by kernel_rfl
theorem jf10RowXP : ((Rows.fnExactPlainOrderRow.unfollowed == Tryz.prog.unfollowed 6)) = true := by kernel_rfl
theorem jf11RowXP : ((Rows.fnExactPlainOrderRow.recurses == Tryz.prog.recurses 6)) = true := by kernel_rfl
end Go.Proofs.YtobplpdjkfbfoaaGreatDoor
