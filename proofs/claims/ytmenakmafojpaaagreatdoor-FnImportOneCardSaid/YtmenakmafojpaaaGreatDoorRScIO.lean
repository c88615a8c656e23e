/-
  The card.
-/
import Derived.Test.YtmenakmafojpaaaGreatDoorRSIO
import Derived.Test.YtmenakmafojpaaaGreatDoorRSdIO
import Derived.Test.YtmenakmafojpaaaGreatDoorRSeIO
import Derived.Test.YtmenakmafojpaaaGreatDoorRSfIO
namespace Go.Proofs.YtmenakmafojpaaaGreatDoor
open Go.ChangeShapes Go.WideShapes Go.ChangeAt Go.RowKit

/-- THE TIED CARD. -/
theorem fnImportOne_holds : Rows.FnImportOneCardSaid :=
  Claim7.holds_tied_plain_at .later [] [.data, .pinned] true (true, "adc7410465d42fa48b15859aa5ed1c2e64f585636607ee6f9e830a21692e4e2e") false
    W0 (fun _ h => by cases h) cd1RowIO (fun _ h => by cases h) fnImportOne_row_tie rfl ⟨rfl, rfl⟩ cd2RowIO rfl
    (fun f fn hf hfn => by
      obtain rfl : f = 5 := Option.some.inj ((show Tryz.prog.funcNamed Rows.fnImportOneRow.func = some 5 by kernel_rfl).symm.trans hf) |>.symm
      obtain rfl : fn = Tryz.f5 := (Option.some.inj (Tryz.func5.symm.trans hfn)).symm
      exact ⟨cd3RowIO, fun j t ht => by
        rw [Tryz.params5] at ht
        have hm : t ∈ [22] := by simpa using Array.mem_of_getElem? ht
        have hall : ([22].all fun u => !Tryz.prog.wantsStandIn u) = true := cd4RowIO
        exact (show Tryz.prog.wantsStandIn t = false by simpa using List.all_eq_true.1 hall t hm)⟩)
    cd5RowIO
#print axioms fnImportOne_holds
end Go.Proofs.YtmenakmafojpaaaGreatDoor
