/-
  The card.
-/
import Derived.Test.YtobplpdjkfbfoaaGreatDoorRSXP
import Derived.Test.YtobplpdjkfbfoaaGreatDoorRSdXP
import Derived.Test.YtobplpdjkfbfoaaGreatDoorRSeXP
import Derived.Test.YtobplpdjkfbfoaaGreatDoorRSfXP
namespace Go.Proofs.YtobplpdjkfbfoaaGreatDoor
open Go.ChangeShapes Go.WideShapes Go.ChangeAt Go.RowKit

/-- THE TIED CARD. -/
theorem fnExactPlainOrder_holds : Rows.FnExactPlainOrderCardSaid :=
  Claim7.holds_tied_plain_at .later [] [.data, .pinned] true (true, "bdafe80bb55cfa30775f06f97a283c401f5470d5339780ed40674d2007fbe984") false
    YX (fun _ h => by cases h) cd1RowXP (fun _ h => by cases h) fnExactPlainOrder_row_tie rfl ⟨rfl, rfl⟩ cd2RowXP rfl
    (fun f fn hf hfn => by
      obtain rfl : f = 6 := Option.some.inj ((show Tryz.prog.funcNamed Rows.fnExactPlainOrderRow.func = some 6 by kernel_rfl).symm.trans hf) |>.symm
      obtain rfl : fn = Tryz.f6 := (Option.some.inj (Tryz.func6.symm.trans hfn)).symm
      exact ⟨cd3RowXP, fun j t ht => by
        rw [Tryz.params6] at ht
        have hm : t ∈ [41, 26, 9] := by simpa using Array.mem_of_getElem? ht
        have hall : ([41, 26, 9].all fun u => !Tryz.prog.wantsStandIn u) = true := cd4RowXP
        exact (show Tryz.prog.wantsStandIn t = false by simpa using List.all_eq_true.1 hall t hm)⟩)
    cd5RowXP
#print axioms fnExactPlainOrder_holds
end Go.Proofs.YtobplpdjkfbfoaaGreatDoor
