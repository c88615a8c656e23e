/-
  Facts of the card.
-/
import Derived.Test.YtoomehfflopakaaGreatDoorTB
import Derived.Test.YtoomehfflopakaaGreatDoorCards
import Derived.Test.YtoomehfflopakaaGreatDoorTie
import Derived.ProofKit
import Derived.LaidMore
import Derived.Lay
import Derived.OpenShut
import Derived.Stop.Joined
import Derived.SevenTiedAt
namespace Go.Proofs.YtoomehfflopakaaGreatDoor
open Go.ChangeShapes Go.WideShapes Go.ChangeAt Go.RowKit
theorem cw22RowRW : (!Tryz.prog.wantsStandIn 22) = true := by kernel_rfl
theorem cw23RowRW : (!Tryz.prog.wantsStandIn 23) = true := by kernel_rfl
theorem cw3RowRW : (!Tryz.prog.wantsStandIn 3) = true := by kernel_rfl
theorem cd4RowRW : ([22, 23, 3, 3].all fun u => !Tryz.prog.wantsStandIn u) = true := by
  rw [List.all_eq_true]
  intro u hu
  simp only [List.mem_cons, List.not_mem_nil, or_false] at hu
  rcases hu with rfl | rfl | rfl | rfl
  · exact cw22RowRW
  · exact cw23RowRW
  · exact cw3RowRW
  · exact cw3RowRW

end Go.Proofs.YtoomehfflopakaaGreatDoor
