/-
  The card.
-/
import Derived.Test.YtiiiokblnnlapaaGreatDoorRSPS
import Derived.Test.YtiiiokblnnlapaaGreatDoorRSdPS
import Derived.Test.YtiiiokblnnlapaaGreatDoorRSePS
import Derived.Test.YtiiiokblnnlapaaGreatDoorRSfPS
namespace Go.Proofs.YtiiiokblnnlapaaGreatDoor
open Go.ChangeShapes Go.WideShapes Go.ChangeAt Go.RowKit

/-- THE TIED CARD. -/
theorem fnExactPartialSeen_holds : Rows.FnExactPartialSeenCardSaid :=
  Claim7.holds_tied_plain_at .later [] [.data, .pinned] true (true, "4e9900ed4bdef7d633a70bd1ff80baf9df292c2e2a39bc7104f554d1344b45a1") false
    qU (fun _ h => by cases h) cd1RowPS (fun _ h => by cases h) fnExactPartialSeen_row_tie rfl ⟨rfl, rfl⟩ cd2RowPS rfl
    (fun f fn hf hfn => by
      obtain rfl : f = 9 := Option.some.inj ((show Tryz.prog.funcNamed Rows.fnExactPartialSeenRow.func = some 9 by kernel_rfl).symm.trans hf) |>.symm
      obtain rfl : fn = Tryz.f9 := (Option.some.inj (Tryz.func9.symm.trans hfn)).symm
      exact ⟨cd3RowPS, fun j t ht => by
        rw [Tryz.params9] at ht
        have hm : t ∈ [24, 25, 9] := by simpa using Array.mem_of_getElem? ht
        have hall : ([24, 25, 9].all fun u => !Tryz.prog.wantsStandIn u) = true := cd4RowPS
        exact (show Tryz.prog.wantsStandIn t = false by simpa using List.all_eq_true.1 hall t hm)⟩)
    cd5RowPS
#print axioms fnExactPartialSeen_holds
end Go.Proofs.YtiiiokblnnlapaaGreatDoor
