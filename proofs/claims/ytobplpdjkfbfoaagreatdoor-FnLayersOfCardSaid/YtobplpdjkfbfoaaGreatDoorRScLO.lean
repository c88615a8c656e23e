/-
  The card.
-/
import Derived.Test.YtobplpdjkfbfoaaGreatDoorRSLO
import Derived.Test.YtobplpdjkfbfoaaGreatDoorRSdLO
import Derived.Test.YtobplpdjkfbfoaaGreatDoorRSeLO
import Derived.Test.YtobplpdjkfbfoaaGreatDoorRSfLO
namespace Go.Proofs.YtobplpdjkfbfoaaGreatDoor
open Go.ChangeShapes Go.WideShapes Go.ChangeAt Go.RowKit

/-- THE TIED CARD. -/
theorem fnLayersOf_holds : Rows.FnLayersOfCardSaid :=
  Claim7.holds_tied_plain_at .later [] [.data, .pinned] true (true, "bdafe80bb55cfa30775f06f97a283c401f5470d5339780ed40674d2007fbe984") false
    Jv (fun _ h => by cases h) cd1RowLO (fun _ h => by cases h) fnLayersOf_row_tie rfl ⟨rfl, rfl⟩ cd2RowLO rfl
    (fun f fn hf hfn => by
      obtain rfl : f = 3 := Option.some.inj ((show Tryz.prog.funcNamed Rows.fnLayersOfRow.func = some 3 by kernel_rfl).symm.trans hf) |>.symm
      obtain rfl : fn = Tryz.f3 := (Option.some.inj (Tryz.func3.symm.trans hfn)).symm
      exact ⟨cd3RowLO, fun j t ht => by
        rw [Tryz.params3] at ht
        have hm : t ∈ [22] := by simpa using Array.mem_of_getElem? ht
        have hall : ([22].all fun u => !Tryz.prog.wantsStandIn u) = true := cd4RowLO
        exact (show Tryz.prog.wantsStandIn t = false by simpa using List.all_eq_true.1 hall t hm)⟩)
    cd5RowLO
#print axioms fnLayersOf_holds
end Go.Proofs.YtobplpdjkfbfoaaGreatDoor
