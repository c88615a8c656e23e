/-
  The card.
-/
import Derived.Test.YtiiiokblnnlapaaGreatDoorRSLG
import Derived.Test.YtiiiokblnnlapaaGreatDoorRSdLG
import Derived.Test.YtiiiokblnnlapaaGreatDoorRSeLG
import Derived.Test.YtiiiokblnnlapaaGreatDoorRSfLG
namespace Go.Proofs.YtiiiokblnnlapaaGreatDoor
open Go.ChangeShapes Go.WideShapes Go.ChangeAt Go.RowKit

/-- THE TIED CARD. -/
theorem fnRingsOf_holds : Rows.FnRingsOfCardSaid :=
  Claim7.holds_tied_plain_at .later [] [.data, .pinned] true (true, "4e9900ed4bdef7d633a70bd1ff80baf9df292c2e2a39bc7104f554d1344b45a1") false
    X8 (fun _ h => by cases h) cd1RowLG (fun _ h => by cases h) fnRingsOf_row_tie rfl ⟨rfl, rfl⟩ cd2RowLG rfl
    (fun f fn hf hfn => by
      obtain rfl : f = 5 := Option.some.inj ((show Tryz.prog.funcNamed Rows.fnRingsOfRow.func = some 5 by kernel_rfl).symm.trans hf) |>.symm
      obtain rfl : fn = Tryz.f5 := (Option.some.inj (Tryz.func5.symm.trans hfn)).symm
      exact ⟨cd3RowLG, fun j t ht => by
        rw [Tryz.params5] at ht
        have hm : t ∈ [36] := by simpa using Array.mem_of_getElem? ht
        have hall : ([36].all fun u => !Tryz.prog.wantsStandIn u) = true := cd4RowLG
        exact (show Tryz.prog.wantsStandIn t = false by simpa using List.all_eq_true.1 hall t hm)⟩)
    cd5RowLG
#print axioms fnRingsOf_holds
end Go.Proofs.YtiiiokblnnlapaaGreatDoor
