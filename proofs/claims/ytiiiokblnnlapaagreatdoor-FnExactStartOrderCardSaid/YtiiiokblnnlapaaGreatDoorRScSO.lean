/-
  The card.
-/
import Derived.Test.YtiiiokblnnlapaaGreatDoorRSSO
import Derived.Test.YtiiiokblnnlapaaGreatDoorRSdSO
import Derived.Test.YtiiiokblnnlapaaGreatDoorRSeSO
import Derived.Test.YtiiiokblnnlapaaGreatDoorRSfSO
namespace Go.Proofs.YtiiiokblnnlapaaGreatDoor
open Go.ChangeShapes Go.WideShapes Go.ChangeAt Go.RowKit

/-- THE TIED CARD. -/
theorem fnExactStartOrder_holds : Rows.FnExactStartOrderCardSaid :=
  Claim7.holds_tied_plain_at .later [] [.data, .pinned] true (true, "4e9900ed4bdef7d633a70bd1ff80baf9df292c2e2a39bc7104f554d1344b45a1") false
    q5 (fun _ h => by cases h) cd1RowSO (fun _ h => by cases h) fnExactStartOrder_row_tie rfl ⟨rfl, rfl⟩ cd2RowSO rfl
    (fun f fn hf hfn => by
      obtain rfl : f = 7 := Option.some.inj ((show Tryz.prog.funcNamed Rows.fnExactStartOrderRow.func = some 7 by kernel_rfl).symm.trans hf) |>.symm
      obtain rfl : fn = Tryz.f7 := (Option.some.inj (Tryz.func7.symm.trans hfn)).symm
      exact ⟨cd3RowSO, fun j t ht => by
        rw [Tryz.params7] at ht
        have hm : t ∈ [24, 25, 9] := by simpa using Array.mem_of_getElem? ht
        have hall : ([24, 25, 9].all fun u => !Tryz.prog.wantsStandIn u) = true := cd4RowSO
        exact (show Tryz.prog.wantsStandIn t = false by simpa using List.all_eq_true.1 hall t hm)⟩)
    cd5RowSO
#print axioms fnExactStartOrder_holds
end Go.Proofs.YtiiiokblnnlapaaGreatDoor
