/-
  The card.
-/
import Derived.Test.YtnlhpkbphdbknaaGreatDoorRSCO
import Derived.Test.YtnlhpkbphdbknaaGreatDoorRSdCO
import Derived.Test.YtnlhpkbphdbknaaGreatDoorRSeCO
import Derived.Test.YtnlhpkbphdbknaaGreatDoorRSfCO
namespace Go.Proofs.YtnlhpkbphdbknaaGreatDoor
open Go.ChangeShapes Go.WideShapes Go.ChangeAt Go.RowKit

/-- THE TIED CARD. -/
theorem fnRunCommands_holds : Rows.FnRunCommandsCardSaid :=
  Claim7.holds_tied_plain_at .later [] [.data, .pinned] true (true, "0bf09a092c0d4304c3184371e16a08630da025a5ed993b172cc94d67496ace16") false
    Wq (fun _ h => by cases h) cd1RowCO (fun _ h => by cases h) fnRunCommands_row_tie rfl ⟨rfl, rfl⟩ cd2RowCO rfl
    (fun f fn hf hfn => by
      obtain rfl : f = 3 := Option.some.inj ((show Tryz.prog.funcNamed Rows.fnRunCommandsRow.func = some 3 by kernel_rfl).symm.trans hf) |>.symm
      obtain rfl : fn = Tryz.f3 := (Option.some.inj (Tryz.func3.symm.trans hfn)).symm
      exact ⟨cd3RowCO, fun j t ht => by
        rw [Tryz.params3] at ht
        have hm : t ∈ [22] := by simpa using Array.mem_of_getElem? ht
        have hall : ([22].all fun u => !Tryz.prog.wantsStandIn u) = true := cd4RowCO
        exact (show Tryz.prog.wantsStandIn t = false by simpa using List.all_eq_true.1 hall t hm)⟩)
    cd5RowCO
#print axioms fnRunCommands_holds
end Go.Proofs.YtnlhpkbphdbknaaGreatDoor
