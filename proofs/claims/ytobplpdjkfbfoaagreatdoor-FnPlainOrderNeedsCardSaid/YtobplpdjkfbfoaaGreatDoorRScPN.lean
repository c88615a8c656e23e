/-
  The card.
-/
import Derived.Test.YtobplpdjkfbfoaaGreatDoorRSPN
import Derived.Test.YtobplpdjkfbfoaaGreatDoorRSdPN
import Derived.Test.YtobplpdjkfbfoaaGreatDoorRSePN
import Derived.Test.YtobplpdjkfbfoaaGreatDoorRSfPN
namespace Go.Proofs.YtobplpdjkfbfoaaGreatDoor
open Go.ChangeShapes Go.WideShapes Go.ChangeAt Go.RowKit

/-- THE TIED CARD. -/
theorem fnPlainOrderNeeds_holds : Rows.FnPlainOrderNeedsCardSaid :=
  Claim7.holds_tied_plain_at .later [] [.data, .pinned] true (true, "bdafe80bb55cfa30775f06f97a283c401f5470d5339780ed40674d2007fbe984") false
    Y0 (fun _ h => by cases h) cd1RowPN (fun _ h => by cases h) fnPlainOrderNeeds_row_tie rfl ⟨rfl, rfl⟩ cd2RowPN rfl
    (fun f fn hf hfn => by
      obtain rfl : f = 5 := Option.some.inj ((show Tryz.prog.funcNamed Rows.fnPlainOrderNeedsRow.func = some 5 by kernel_rfl).symm.trans hf) |>.symm
      obtain rfl : fn = Tryz.f5 := (Option.some.inj (Tryz.func5.symm.trans hfn)).symm
      exact ⟨cd3RowPN, fun j t ht => by
        rw [Tryz.params5] at ht
        have hm : t ∈ [22] := by simpa using Array.mem_of_getElem? ht
        have hall : ([22].all fun u => !Tryz.prog.wantsStandIn u) = true := cd4RowPN
        exact (show Tryz.prog.wantsStandIn t = false by simpa using List.all_eq_true.1 hall t hm)⟩)
    cd5RowPN
#print axioms fnPlainOrderNeeds_holds
end Go.Proofs.YtobplpdjkfbfoaaGreatDoor
