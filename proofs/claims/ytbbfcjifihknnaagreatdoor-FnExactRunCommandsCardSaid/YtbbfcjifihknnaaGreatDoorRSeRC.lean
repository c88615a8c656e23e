/-
  Facts of the card.
-/
import Derived.Test.YtbbfcjifihknnaaGreatDoorRB
import Derived.Test.YtbbfcjifihknnaaGreatDoorCards
import Derived.Test.YtbbfcjifihknnaaGreatDoorTie
import Derived.ProofKit
import Derived.LaidMore
import Derived.Lay
import Derived.OpenShut
import Derived.Stop.Joined
import Derived.SevenTiedAt
namespace Go.Proofs.YtbbfcjifihknnaaGreatDoor
open Go.ChangeShapes Go.WideShapes Go.ChangeAt Go.RowKit
theorem cw24RowRC : (!Tryz.prog.wantsStandIn 24) = true := by kernel_rfl
theorem cw25RowRC : (!Tryz.prog.wantsStandIn 25) = true := by kernel_rfl
theorem cw26RowRC : (!Tryz.prog.wantsStandIn 26) = true := by kernel_rfl
theorem cw3RowRC : (!Tryz.prog.wantsStandIn 3) = true := by kernel_rfl
theorem cd4RowRC : ([24, 25, 26, 3].all fun u => !Tryz.prog.wantsStandIn u) = true := by
  rw [List.all_eq_true]
  intro u hu
  simp only [List.mem_cons, List.not_mem_nil, or_false] at hu
  rcases hu with rfl | rfl | rfl | rfl
  · exact cw24RowRC
  · exact cw25RowRC
  · exact cw26RowRC
  · exact cw3RowRC

end Go.Proofs.YtbbfcjifihknnaaGreatDoor
