/-
  Facts of the card.
-/
import Derived.Test.YtobplpdjkfbfoaaGreatDoorRB
import Derived.Test.YtobplpdjkfbfoaaGreatDoorCards
import Derived.Test.YtobplpdjkfbfoaaGreatDoorTie
import Derived.ProofKit
import Derived.LaidMore
import Derived.Lay
import Derived.OpenShut
import Derived.Stop.Joined
import Derived.SevenTiedAt
namespace Go.Proofs.YtobplpdjkfbfoaaGreatDoor
open Go.ChangeShapes Go.WideShapes Go.ChangeAt Go.RowKit
theorem cw41RowXP : (!Tryz.prog.wantsStandIn 41) = true := by kernel_rfl
theorem cw26RowXP : (!Tryz.prog.wantsStandIn 26) = true := by kernel_rfl
theorem cw9RowXP : (!Tryz.prog.wantsStandIn 9) = true := by kernel_rfl
theorem cd4RowXP : ([41, 26, 9].all fun u => !Tryz.prog.wantsStandIn u) = true := by
  rw [List.all_eq_true]
  intro u hu
  simp only [List.mem_cons, List.not_mem_nil, or_false] at hu
  rcases hu with rfl | rfl | rfl
  · exact cw41RowXP
  · exact cw26RowXP
  · exact cw9RowXP

end Go.Proofs.YtobplpdjkfbfoaaGreatDoor
