/-
  Facts of the card.
-/
import Derived.Test.YtdoidiipacdbpaaGreatDoorRB
import Derived.Test.YtdoidiipacdbpaaGreatDoorCards
import Derived.Test.YtdoidiipacdbpaaGreatDoorTie
import Derived.ProofKit
import Derived.LaidMore
import Derived.Lay
import Derived.OpenShut
import Derived.Stop.Joined
import Derived.SevenTiedAt
namespace Go.Proofs.YtdoidiipacdbpaaGreatDoor
open Go.ChangeShapes Go.WideShapes Go.ChangeAt Go.RowKit
theorem cw24RowF0 : (!Tryz.prog.wantsStandIn 24) = true := by kernel_rfl
theorem cw29RowF0 : (!Tryz.prog.wantsStandIn 29) = true := by kernel_rfl
theorem cw30RowF0 : (!Tryz.prog.wantsStandIn 30) = true := by kernel_rfl
theorem cw9RowF0 : (!Tryz.prog.wantsStandIn 9) = true := by kernel_rfl
theorem cd4RowF0 : ([24, 29, 30, 9].all fun u => !Tryz.prog.wantsStandIn u) = true := by
  rw [List.all_eq_true]
  intro u hu
  simp only [List.mem_cons, List.not_mem_nil, or_false] at hu
  rcases hu with rfl | rfl | rfl | rfl
  · exact cw24RowF0
  · exact cw29RowF0
  · exact cw30RowF0
  · exact cw9RowF0

end Go.Proofs.YtdoidiipacdbpaaGreatDoor
