/-
  Facts of the card.
-/
import Derived.Test.YtbbfcjifihknnaaGreatDoorTB
import Derived.Test.YtbbfcjifihknnaaGreatDoorCards
import Derived.Test.YtbbfcjifihknnaaGreatDoorTie
import Derived.ProofKit
import Derived.LaidMore
import Derived.Lay
import Derived.OpenShut
import Derived.Stop.Joined
import Derived.SevenTiedAt
import Derived.OpenVars
namespace Go.Proofs.YtbbfcjifihknnaaGreatDoor
open Go.ChangeShapes Go.WideShapes Go.ChangeAt Go.RowKit
theorem cw9RowRD : (!Tryz.prog.wantsStandIn 9) = true := by kernel_rfl
theorem cw25RowRD : (!Tryz.prog.wantsStandIn 25) = true := by kernel_rfl
theorem cw64RowRD : (!Tryz.prog.wantsStandIn 64) = true := by kernel_rfl
theorem cd4RowRD : ([9, 25, 64].all fun u => !Tryz.prog.wantsStandIn u) = true := by
  rw [List.all_eq_true]
  intro u hu
  simp only [List.mem_cons, List.not_mem_nil, or_false] at hu
  rcases hu with rfl | rfl | rfl
  · exact cw9RowRD
  · exact cw25RowRD
  · exact cw64RowRD

end Go.Proofs.YtbbfcjifihknnaaGreatDoor
