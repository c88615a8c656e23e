/-
  Facts of the card.
-/
import Derived.Test.YtiiiokblnnlapaaGreatDoorRB
import Derived.Test.YtiiiokblnnlapaaGreatDoorCards
import Derived.Test.YtiiiokblnnlapaaGreatDoorTie
import Derived.ProofKit
import Derived.LaidMore
import Derived.Lay
import Derived.OpenShut
import Derived.Stop.Joined
import Derived.SevenTiedAt
namespace Go.Proofs.YtiiiokblnnlapaaGreatDoor
open Go.ChangeShapes Go.WideShapes Go.ChangeAt Go.RowKit
theorem cw24RowIO : (!Tryz.prog.wantsStandIn 24) = true := by kernel_rfl
theorem cw25RowIO : (!Tryz.prog.wantsStandIn 25) = true := by kernel_rfl
theorem cw9RowIO : (!Tryz.prog.wantsStandIn 9) = true := by kernel_rfl
theorem cd4RowIO : ([24, 25, 9].all fun u => !Tryz.prog.wantsStandIn u) = true := by
  rw [List.all_eq_true]
  intro u hu
  simp only [List.mem_cons, List.not_mem_nil, or_false] at hu
  rcases hu with rfl | rfl | rfl
  · exact cw24RowIO
  · exact cw25RowIO
  · exact cw9RowIO

end Go.Proofs.YtiiiokblnnlapaaGreatDoor
