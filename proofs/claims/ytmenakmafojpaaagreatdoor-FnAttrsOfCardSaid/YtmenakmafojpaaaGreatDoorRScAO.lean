/-
  The card.
-/
import Derived.Test.YtmenakmafojpaaaGreatDoorRSAO
import Derived.Test.YtmenakmafojpaaaGreatDoorRSdAO
import Derived.Test.YtmenakmafojpaaaGreatDoorRSeAO
import Derived.Test.YtmenakmafojpaaaGreatDoorRSfAO
namespace Go.Proofs.YtmenakmafojpaaaGreatDoor
open Go.ChangeShapes Go.WideShapes Go.ChangeAt Go.RowKit

/-- THE TIED CARD. -/
theorem fnAttrsOf_holds : Rows.FnAttrsOfCardSaid :=
  Claim7.holds_tied_plain_at .later [] [.data, .pinned] true (true, "adc7410465d42fa48b15859aa5ed1c2e64f585636607ee6f9e830a21692e4e2e") false
    JN (fun _ h => by cases h) cd1RowAO (fun _ h => by cases h) fnAttrsOf_row_tie rfl ⟨rfl, rfl⟩ cd2RowAO rfl
    (fun f fn hf hfn => by
      obtain rfl : f = 4 := Option.some.inj ((show Tryz.prog.funcNamed Rows.fnAttrsOfRow.func = some 4 by kernel_rfl).symm.trans hf) |>.symm
      obtain rfl : fn = Tryz.f4 := (Option.some.inj (Tryz.func4.symm.trans hfn)).symm
      exact ⟨cd3RowAO, fun j t ht => by
        rw [Tryz.params4] at ht
        have hm : t ∈ [22] := by simpa using Array.mem_of_getElem? ht
        have hall : ([22].all fun u => !Tryz.prog.wantsStandIn u) = true := cd4RowAO
        exact (show Tryz.prog.wantsStandIn t = false by simpa using List.all_eq_true.1 hall t hm)⟩)
    cd5RowAO
#print axioms fnAttrsOf_holds
end Go.Proofs.YtmenakmafojpaaaGreatDoor
