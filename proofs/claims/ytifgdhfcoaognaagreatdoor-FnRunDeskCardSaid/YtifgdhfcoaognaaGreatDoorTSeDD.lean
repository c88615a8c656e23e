/-
  Facts of the card.
-/
import Derived.Test.YtifgdhfcoaognaaGreatDoorTB
import Derived.Test.YtifgdhfcoaognaaGreatDoorCards
import Derived.Test.YtifgdhfcoaognaaGreatDoorTie
import Derived.ProofKit
import Derived.LaidMore
import Derived.Lay
import Derived.OpenShut
import Derived.Stop.Joined
import Derived.SevenTiedAt
import Derived.OpenVars
namespace Go.Proofs.YtifgdhfcoaognaaGreatDoor
open Go.ChangeShapes Go.WideShapes Go.ChangeAt Go.RowKit
theorem cw22RowDD : (!Tryz.prog.wantsStandIn 22) = true := by kernel_rfl
theorem cd4RowDD : ([22].all fun u => !Tryz.prog.wantsStandIn u) = true := by
  rw [List.all_eq_true]
  intro u hu
  simp only [List.mem_cons, List.not_mem_nil, or_false] at hu
  rcases hu with rfl
  · exact cw22RowDD

end Go.Proofs.YtifgdhfcoaognaaGreatDoor
