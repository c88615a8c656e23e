/-
  The card.
-/
import Derived.Test.YtmenakmafojpaaaGreatDoorRSFF
import Derived.Test.YtmenakmafojpaaaGreatDoorRSdFF
import Derived.Test.YtmenakmafojpaaaGreatDoorRSeFF
import Derived.Test.YtmenakmafojpaaaGreatDoorRSfFF
namespace Go.Proofs.YtmenakmafojpaaaGreatDoor
open Go.ChangeShapes Go.WideShapes Go.ChangeAt Go.RowKit

/-- THE TIED CARD. -/
theorem fnFirstFailure_holds : Rows.FnFirstFailureCardSaid :=
  Claim7.holds_tied_plain_at .later [] [.data, .pinned] true (true, "adc7410465d42fa48b15859aa5ed1c2e64f585636607ee6f9e830a21692e4e2e") false
    XH (fun _ h => by cases h) cd1RowFF (fun _ h => by cases h) fnFirstFailure_row_tie rfl ⟨rfl, rfl⟩ cd2RowFF rfl
    (fun f fn hf hfn => by
      obtain rfl : f = 7 := Option.some.inj ((show Tryz.prog.funcNamed Rows.fnFirstFailureRow.func = some 7 by kernel_rfl).symm.trans hf) |>.symm
      obtain rfl : fn = Tryz.f7 := (Option.some.inj (Tryz.func7.symm.trans hfn)).symm
      exact ⟨cd3RowFF, fun j t ht => by
        rw [Tryz.params7] at ht
        have hm : t ∈ [22] := by simpa using Array.mem_of_getElem? ht
        have hall : ([22].all fun u => !Tryz.prog.wantsStandIn u) = true := cd4RowFF
        exact (show Tryz.prog.wantsStandIn t = false by simpa using List.all_eq_true.1 hall t hm)⟩)
    cd5RowFF
#print axioms fnFirstFailure_holds
end Go.Proofs.YtmenakmafojpaaaGreatDoor
