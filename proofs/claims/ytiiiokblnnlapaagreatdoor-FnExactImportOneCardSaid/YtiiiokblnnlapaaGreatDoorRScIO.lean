/-
  The card.
-/
import Derived.Test.YtiiiokblnnlapaaGreatDoorRSIO
import Derived.Test.YtiiiokblnnlapaaGreatDoorRSdIO
import Derived.Test.YtiiiokblnnlapaaGreatDoorRSeIO
import Derived.Test.YtiiiokblnnlapaaGreatDoorRSfIO
namespace Go.Proofs.YtiiiokblnnlapaaGreatDoor
open Go.ChangeShapes Go.WideShapes Go.ChangeAt Go.RowKit

/-- THE TIED CARD. -/
theorem fnExactImportOne_holds : Rows.FnExactImportOneCardSaid :=
  Claim7.holds_tied_plain_at .later [] [.data, .pinned] true (true, "4e9900ed4bdef7d633a70bd1ff80baf9df292c2e2a39bc7104f554d1344b45a1") false
    Zv (fun _ h => by cases h) cd1RowIO (fun _ h => by cases h) fnExactImportOne_row_tie rfl ⟨rfl, rfl⟩ cd2RowIO rfl
    (fun f fn hf hfn => by
      obtain rfl : f = 8 := Option.some.inj ((show Tryz.prog.funcNamed Rows.fnExactImportOneRow.func = some 8 by kernel_rfl).symm.trans hf) |>.symm
      obtain rfl : fn = Tryz.f8 := (Option.some.inj (Tryz.func8.symm.trans hfn)).symm
      exact ⟨cd3RowIO, fun j t ht => by
        rw [Tryz.params8] at ht
        have hm : t ∈ [24, 25, 9] := by simpa using Array.mem_of_getElem? ht
        have hall : ([24, 25, 9].all fun u => !Tryz.prog.wantsStandIn u) = true := cd4RowIO
        exact (show Tryz.prog.wantsStandIn t = false by simpa using List.all_eq_true.1 hall t hm)⟩)
    cd5RowIO
#print axioms fnExactImportOne_holds
end Go.Proofs.YtiiiokblnnlapaaGreatDoor
