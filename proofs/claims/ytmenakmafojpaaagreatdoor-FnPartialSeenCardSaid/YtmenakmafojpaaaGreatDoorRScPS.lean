/-
  The card.
-/
import Derived.Test.YtmenakmafojpaaaGreatDoorRSPS
import Derived.Test.YtmenakmafojpaaaGreatDoorRSdPS
import Derived.Test.YtmenakmafojpaaaGreatDoorRSePS
import Derived.Test.YtmenakmafojpaaaGreatDoorRSfPS
namespace Go.Proofs.YtmenakmafojpaaaGreatDoor
open Go.ChangeShapes Go.WideShapes Go.ChangeAt Go.RowKit

/-- THE TIED CARD. -/
theorem fnPartialSeen_holds : Rows.FnPartialSeenCardSaid :=
  Claim7.holds_tied_plain_at .later [] [.data, .pinned] true (true, "adc7410465d42fa48b15859aa5ed1c2e64f585636607ee6f9e830a21692e4e2e") false
    X6 (fun _ h => by cases h) cd1RowPS (fun _ h => by cases h) fnPartialSeen_row_tie rfl ⟨rfl, rfl⟩ cd2RowPS rfl
    (fun f fn hf hfn => by
      obtain rfl : f = 8 := Option.some.inj ((show Tryz.prog.funcNamed Rows.fnPartialSeenRow.func = some 8 by kernel_rfl).symm.trans hf) |>.symm
      obtain rfl : fn = Tryz.f8 := (Option.some.inj (Tryz.func8.symm.trans hfn)).symm
      exact ⟨cd3RowPS, fun j t ht => by
        rw [Tryz.params8] at ht
        have hm : t ∈ [22] := by simpa using Array.mem_of_getElem? ht
        have hall : ([22].all fun u => !Tryz.prog.wantsStandIn u) = true := cd4RowPS
        exact (show Tryz.prog.wantsStandIn t = false by simpa using List.all_eq_true.1 hall t hm)⟩)
    cd5RowPS
#print axioms fnPartialSeen_holds
end Go.Proofs.YtmenakmafojpaaaGreatDoor
