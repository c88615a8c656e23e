/-
  The card.
-/
import Derived.Test.YtmenakmafojpaaaGreatDoorRSSO
import Derived.Test.YtmenakmafojpaaaGreatDoorRSdSO
import Derived.Test.YtmenakmafojpaaaGreatDoorRSeSO
import Derived.Test.YtmenakmafojpaaaGreatDoorRSfSO
namespace Go.Proofs.YtmenakmafojpaaaGreatDoor
open Go.ChangeShapes Go.WideShapes Go.ChangeAt Go.RowKit

/-- THE TIED CARD. -/
theorem fnStartOrder_holds : Rows.FnStartOrderCardSaid :=
  Claim7.holds_tied_plain_at .later [] [.data, .pinned] true (true, "adc7410465d42fa48b15859aa5ed1c2e64f585636607ee6f9e830a21692e4e2e") false
    WU (fun _ h => by cases h) cd1RowSO (fun _ h => by cases h) fnStartOrder_row_tie rfl ⟨rfl, rfl⟩ cd2RowSO rfl
    (fun f fn hf hfn => by
      obtain rfl : f = 3 := Option.some.inj ((show Tryz.prog.funcNamed Rows.fnStartOrderRow.func = some 3 by kernel_rfl).symm.trans hf) |>.symm
      obtain rfl : fn = Tryz.f3 := (Option.some.inj (Tryz.func3.symm.trans hfn)).symm
      exact ⟨cd3RowSO, fun j t ht => by
        rw [Tryz.params3] at ht
        have hm : t ∈ [22] := by simpa using Array.mem_of_getElem? ht
        have hall : ([22].all fun u => !Tryz.prog.wantsStandIn u) = true := cd4RowSO
        exact (show Tryz.prog.wantsStandIn t = false by simpa using List.all_eq_true.1 hall t hm)⟩)
    cd5RowSO
#print axioms fnStartOrder_holds
end Go.Proofs.YtmenakmafojpaaaGreatDoor
