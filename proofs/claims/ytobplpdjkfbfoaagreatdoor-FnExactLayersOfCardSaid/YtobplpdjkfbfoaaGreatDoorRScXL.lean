/-
  The card.
-/
import Derived.Test.YtobplpdjkfbfoaaGreatDoorRSXL
import Derived.Test.YtobplpdjkfbfoaaGreatDoorRSdXL
import Derived.Test.YtobplpdjkfbfoaaGreatDoorRSeXL
import Derived.Test.YtobplpdjkfbfoaaGreatDoorRSfXL
namespace Go.Proofs.YtobplpdjkfbfoaaGreatDoor
open Go.ChangeShapes Go.WideShapes Go.ChangeAt Go.RowKit

/-- THE TIED CARD. -/
theorem fnExactLayersOf_holds : Rows.FnExactLayersOfCardSaid :=
  Claim7.holds_tied_plain_at .later [] [.data, .pinned] true (true, "bdafe80bb55cfa30775f06f97a283c401f5470d5339780ed40674d2007fbe984") false
    Xv (fun _ h => by cases h) cd1RowXL (fun _ h => by cases h) fnExactLayersOf_row_tie rfl ⟨rfl, rfl⟩ cd2RowXL rfl
    (fun f fn hf hfn => by
      obtain rfl : f = 4 := Option.some.inj ((show Tryz.prog.funcNamed Rows.fnExactLayersOfRow.func = some 4 by kernel_rfl).symm.trans hf) |>.symm
      obtain rfl : fn = Tryz.f4 := (Option.some.inj (Tryz.func4.symm.trans hfn)).symm
      exact ⟨cd3RowXL, fun j t ht => by
        rw [Tryz.params4] at ht
        have hm : t ∈ [41, 26, 9] := by simpa using Array.mem_of_getElem? ht
        have hall : ([41, 26, 9].all fun u => !Tryz.prog.wantsStandIn u) = true := cd4RowXL
        exact (show Tryz.prog.wantsStandIn t = false by simpa using List.all_eq_true.1 hall t hm)⟩)
    cd5RowXL
#print axioms fnExactLayersOf_holds
end Go.Proofs.YtobplpdjkfbfoaaGreatDoor
