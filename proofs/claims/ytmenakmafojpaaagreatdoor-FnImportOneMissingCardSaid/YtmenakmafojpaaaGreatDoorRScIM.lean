/-
  The card.
-/
import Derived.Test.YtmenakmafojpaaaGreatDoorRSIM
import Derived.Test.YtmenakmafojpaaaGreatDoorRSdIM
import Derived.Test.YtmenakmafojpaaaGreatDoorRSeIM
import Derived.Test.YtmenakmafojpaaaGreatDoorRSfIM
namespace Go.Proofs.YtmenakmafojpaaaGreatDoor
open Go.ChangeShapes Go.WideShapes Go.ChangeAt Go.RowKit

/-- THE TIED CARD. -/
theorem fnImportOneMissing_holds : Rows.FnImportOneMissingCardSaid :=
  Claim7.holds_tied_plain_at .later [] [.data, .pinned] true (true, "adc7410465d42fa48b15859aa5ed1c2e64f585636607ee6f9e830a21692e4e2e") false
    Y6 (fun _ h => by cases h) cd1RowIM (fun _ h => by cases h) fnImportOneMissing_row_tie rfl ⟨rfl, rfl⟩ cd2RowIM rfl
    (fun f fn hf hfn => by
      obtain rfl : f = 6 := Option.some.inj ((show Tryz.prog.funcNamed Rows.fnImportOneMissingRow.func = some 6 by kernel_rfl).symm.trans hf) |>.symm
      obtain rfl : fn = Tryz.f6 := (Option.some.inj (Tryz.func6.symm.trans hfn)).symm
      exact ⟨cd3RowIM, fun j t ht => by
        rw [Tryz.params6] at ht
        have hm : t ∈ [22] := by simpa using Array.mem_of_getElem? ht
        have hall : ([22].all fun u => !Tryz.prog.wantsStandIn u) = true := cd4RowIM
        exact (show Tryz.prog.wantsStandIn t = false by simpa using List.all_eq_true.1 hall t hm)⟩)
    cd5RowIM
#print axioms fnImportOneMissing_holds
end Go.Proofs.YtmenakmafojpaaaGreatDoor
