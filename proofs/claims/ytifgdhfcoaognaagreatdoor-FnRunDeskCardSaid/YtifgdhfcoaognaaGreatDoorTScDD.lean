/-
  The card.
-/
import Derived.Test.YtifgdhfcoaognaaGreatDoorTSDD
import Derived.Test.YtifgdhfcoaognaaGreatDoorTSdDD
import Derived.Test.YtifgdhfcoaognaaGreatDoorTSeDD
import Derived.Test.YtifgdhfcoaognaaGreatDoorTSfDD
namespace Go.Proofs.YtifgdhfcoaognaaGreatDoor
open Go.ChangeShapes Go.WideShapes Go.ChangeAt Go.RowKit

/-- THE TIED CARD. -/
theorem fnRunDesk_holds : Rows.FnRunDeskCardSaid :=
  Claim7.holds_tied_plain_at .later [] [.data, .data, .data, .data, .sentinel, .sentinel, .data, .data, .pinned] true (true, "b63d06eee457281631f676e7ef85794e8d1c529aa05ae4a475e3284c05fcdd79") true
    zaV (fun _ h => by cases h) cd1RowDD (fun _ h => by cases h) fnRunDesk_row_tie rfl ⟨rfl, rfl⟩ cd2RowDD rfl
    (fun f fn hf hfn => by
      obtain rfl : f = 3 := Option.some.inj ((show Tryz.prog.funcNamed Rows.fnRunDeskRow.func = some 3 by kernel_rfl).symm.trans hf) |>.symm
      obtain rfl : fn = Tryz.f3 := (Option.some.inj (Tryz.func3.symm.trans hfn)).symm
      exact ⟨cd3RowDD, fun j t ht => by
        rw [Tryz.params3] at ht
        have hm : t ∈ [22] := by simpa using Array.mem_of_getElem? ht
        have hall : ([22].all fun u => !Tryz.prog.wantsStandIn u) = true := cd4RowDD
        exact (show Tryz.prog.wantsStandIn t = false by simpa using List.all_eq_true.1 hall t hm)⟩)
    cd5RowDD
#print axioms fnRunDesk_holds
end Go.Proofs.YtifgdhfcoaognaaGreatDoor
