/-
  The card.
-/
import Derived.Test.YtiiiokblnnlapaaGreatDoorRSFF
import Derived.Test.YtiiiokblnnlapaaGreatDoorRSdFF
import Derived.Test.YtiiiokblnnlapaaGreatDoorRSeFF
import Derived.Test.YtiiiokblnnlapaaGreatDoorRSfFF
namespace Go.Proofs.YtiiiokblnnlapaaGreatDoor
open Go.ChangeShapes Go.WideShapes Go.ChangeAt Go.RowKit

/-- THE TIED CARD. -/
theorem fnExactFirstFailure_holds : Rows.FnExactFirstFailureCardSaid :=
  Claim7.holds_tied_plain_at .later [] [.data, .pinned] true (true, "4e9900ed4bdef7d633a70bd1ff80baf9df292c2e2a39bc7104f554d1344b45a1") false
    ZI (fun _ h => by cases h) cd1RowFF (fun _ h => by cases h) fnExactFirstFailure_row_tie rfl ⟨rfl, rfl⟩ cd2RowFF rfl
    (fun f fn hf hfn => by
      obtain rfl : f = 3 := Option.some.inj ((show Tryz.prog.funcNamed Rows.fnExactFirstFailureRow.func = some 3 by kernel_rfl).symm.trans hf) |>.symm
      obtain rfl : fn = Tryz.f3 := (Option.some.inj (Tryz.func3.symm.trans hfn)).symm
      exact ⟨cd3RowFF, fun j t ht => by
        rw [Tryz.params3] at ht
        have hm : t ∈ [24, 25, 9] := by simpa using Array.mem_of_getElem? ht
        have hall : ([24, 25, 9].all fun u => !Tryz.prog.wantsStandIn u) = true := cd4RowFF
        exact (show Tryz.prog.wantsStandIn t = false by simpa using List.all_eq_true.1 hall t hm)⟩)
    cd5RowFF
#print axioms fnExactFirstFailure_holds
end Go.Proofs.YtiiiokblnnlapaaGreatDoor
