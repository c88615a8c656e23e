/-
  Facts of the card.
-/
import Derived.Test.YtandbaloaenciaaGreatDoorRB
import Derived.Test.YtandbaloaenciaaGreatDoorCards
import Derived.Test.YtandbaloaenciaaGreatDoorTie
import Derived.ProofKit
import Derived.LaidMore
import Derived.Lay
import Derived.OpenShut
import Derived.Stop.Joined
import Derived.SevenTiedAt
namespace Go.Proofs.YtandbaloaenciaaGreatDoor
open Go.ChangeShapes Go.WideShapes Go.ChangeAt Go.RowKit
theorem cw68RowRE : (!Tryz.prog.wantsStandIn 68) = true := by kernel_rfl
theorem cw25RowRE : (!Tryz.prog.wantsStandIn 25) = true := by kernel_rfl
theorem cw3RowRE : (!Tryz.prog.wantsStandIn 3) = true := by kernel_rfl
theorem cd4RowRE : ([68, 25, 3].all fun u => !Tryz.prog.wantsStandIn u) = true := by
  rw [List.all_eq_true]
  intro u hu
  simp only [List.mem_cons, List.not_mem_nil, or_false] at hu
  rcases hu with rfl | rfl | rfl
  · exact cw68RowRE
  · exact cw25RowRE
  · exact cw3RowRE

end Go.Proofs.YtandbaloaenciaaGreatDoor
