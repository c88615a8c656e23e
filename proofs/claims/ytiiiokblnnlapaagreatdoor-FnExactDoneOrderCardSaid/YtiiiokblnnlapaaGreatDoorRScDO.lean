/-
  The card.
-/
import Derived.Test.YtiiiokblnnlapaaGreatDoorRSDO
import Derived.Test.YtiiiokblnnlapaaGreatDoorRSdDO
import Derived.Test.YtiiiokblnnlapaaGreatDoorRSeDO
import Derived.Test.YtiiiokblnnlapaaGreatDoorRSfDO
namespace Go.Proofs.YtiiiokblnnlapaaGreatDoor
open Go.ChangeShapes Go.WideShapes Go.ChangeAt Go.RowKit

/-- THE TIED CARD. -/
theorem fnExactDoneOrder_holds : Rows.FnExactDoneOrderCardSaid :=
  Claim7.holds_tied_plain_at .later [] [.data, .pinned] true (true, "4e9900ed4bdef7d633a70bd1ff80baf9df292c2e2a39bc7104f554d1344b45a1") false
    YM (fun _ h => by cases h) cd1RowDO (fun _ h => by cases h) fnExactDoneOrder_row_tie rfl ⟨rfl, rfl⟩ cd2RowDO rfl
    (fun f fn hf hfn => by
      obtain rfl : f = 6 := Option.some.inj ((show Tryz.prog.funcNamed Rows.fnExactDoneOrderRow.func = some 6 by kernel_rfl).symm.trans hf) |>.symm
      obtain rfl : fn = Tryz.f6 := (Option.some.inj (Tryz.func6.symm.trans hfn)).symm
      exact ⟨cd3RowDO, fun j t ht => by
        rw [Tryz.params6] at ht
        have hm : t ∈ [24, 25, 9] := by simpa using Array.mem_of_getElem? ht
        have hall : ([24, 25, 9].all fun u => !Tryz.prog.wantsStandIn u) = true := cd4RowDO
        exact (show Tryz.prog.wantsStandIn t = false by simpa using List.all_eq_true.1 hall t hm)⟩)
    cd5RowDO
#print axioms fnExactDoneOrder_holds
end Go.Proofs.YtiiiokblnnlapaaGreatDoor
