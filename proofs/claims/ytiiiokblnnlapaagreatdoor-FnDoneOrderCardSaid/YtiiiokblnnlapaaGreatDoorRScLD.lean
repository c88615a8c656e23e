/-
  The card.
-/
import Derived.Test.YtiiiokblnnlapaaGreatDoorRSLD
import Derived.Test.YtiiiokblnnlapaaGreatDoorRSdLD
import Derived.Test.YtiiiokblnnlapaaGreatDoorRSeLD
import Derived.Test.YtiiiokblnnlapaaGreatDoorRSfLD
namespace Go.Proofs.YtiiiokblnnlapaaGreatDoor
open Go.ChangeShapes Go.WideShapes Go.ChangeAt Go.RowKit

/-- THE TIED CARD. -/
theorem fnDoneOrder_holds : Rows.FnDoneOrderCardSaid :=
  Claim7.holds_tied_plain_at .later [] [.data, .pinned] true (true, "4e9900ed4bdef7d633a70bd1ff80baf9df292c2e2a39bc7104f554d1344b45a1") false
    XU (fun _ h => by cases h) cd1RowLD (fun _ h => by cases h) fnDoneOrder_row_tie rfl ⟨rfl, rfl⟩ cd2RowLD rfl
    (fun f fn hf hfn => by
      obtain rfl : f = 4 := Option.some.inj ((show Tryz.prog.funcNamed Rows.fnDoneOrderRow.func = some 4 by kernel_rfl).symm.trans hf) |>.symm
      obtain rfl : fn = Tryz.f4 := (Option.some.inj (Tryz.func4.symm.trans hfn)).symm
      exact ⟨cd3RowLD, fun j t ht => by
        rw [Tryz.params4] at ht
        have hm : t ∈ [36] := by simpa using Array.mem_of_getElem? ht
        have hall : ([36].all fun u => !Tryz.prog.wantsStandIn u) = true := cd4RowLD
        exact (show Tryz.prog.wantsStandIn t = false by simpa using List.all_eq_true.1 hall t hm)⟩)
    cd5RowLD
#print axioms fnDoneOrder_holds
end Go.Proofs.YtiiiokblnnlapaaGreatDoor
