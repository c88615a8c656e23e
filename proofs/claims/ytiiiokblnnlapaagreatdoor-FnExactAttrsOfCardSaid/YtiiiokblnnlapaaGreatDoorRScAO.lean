/-
  The card.
-/
import Derived.Test.YtiiiokblnnlapaaGreatDoorRSAO
import Derived.Test.YtiiiokblnnlapaaGreatDoorRSdAO
import Derived.Test.YtiiiokblnnlapaaGreatDoorRSeAO
import Derived.Test.YtiiiokblnnlapaaGreatDoorRSfAO
namespace Go.Proofs.YtiiiokblnnlapaaGreatDoor
open Go.ChangeShapes Go.WideShapes Go.ChangeAt Go.RowKit

/-- THE TIED CARD. -/
theorem fnExactAttrsOf_holds : Rows.FnExactAttrsOfCardSaid :=
  Claim7.holds_tied_plain_at .later [] [.data, .pinned] true (true, "4e9900ed4bdef7d633a70bd1ff80baf9df292c2e2a39bc7104f554d1344b45a1") false
    ZV (fun _ h => by cases h) cd1RowAO (fun _ h => by cases h) fnExactAttrsOf_row_tie rfl ⟨rfl, rfl⟩ cd2RowAO rfl
    (fun f fn hf hfn => by
      obtain rfl : f = 11 := Option.some.inj ((show Tryz.prog.funcNamed Rows.fnExactAttrsOfRow.func = some 11 by kernel_rfl).symm.trans hf) |>.symm
      obtain rfl : fn = Tryz.f11 := (Option.some.inj (Tryz.func11.symm.trans hfn)).symm
      exact ⟨cd3RowAO, fun j t ht => by
        rw [Tryz.params11] at ht
        have hm : t ∈ [24, 25, 9] := by simpa using Array.mem_of_getElem? ht
        have hall : ([24, 25, 9].all fun u => !Tryz.prog.wantsStandIn u) = true := cd4RowAO
        exact (show Tryz.prog.wantsStandIn t = false by simpa using List.all_eq_true.1 hall t hm)⟩)
    cd5RowAO
#print axioms fnExactAttrsOf_holds
end Go.Proofs.YtiiiokblnnlapaaGreatDoor
