/-
  The card.
-/
import Derived.Test.YtnlhpkbphdbknaaGreatDoorRSCL
import Derived.Test.YtnlhpkbphdbknaaGreatDoorRSdCL
import Derived.Test.YtnlhpkbphdbknaaGreatDoorRSeCL
import Derived.Test.YtnlhpkbphdbknaaGreatDoorRSfCL
namespace Go.Proofs.YtnlhpkbphdbknaaGreatDoor
open Go.ChangeShapes Go.WideShapes Go.ChangeAt Go.RowKit

/-- THE TIED CARD. -/
theorem fnRunCommandsLog_holds : Rows.FnRunCommandsLogCardSaid :=
  Claim7.holds_tied_plain_at .later [] [.data, .pinned] true (true, "0bf09a092c0d4304c3184371e16a08630da025a5ed993b172cc94d67496ace16") false
    Xw (fun _ h => by cases h) cd1RowCL (fun _ h => by cases h) fnRunCommandsLog_row_tie rfl ⟨rfl, rfl⟩ cd2RowCL rfl
    (fun f fn hf hfn => by
      obtain rfl : f = 5 := Option.some.inj ((show Tryz.prog.funcNamed Rows.fnRunCommandsLogRow.func = some 5 by kernel_rfl).symm.trans hf) |>.symm
      obtain rfl : fn = Tryz.f5 := (Option.some.inj (Tryz.func5.symm.trans hfn)).symm
      exact ⟨cd3RowCL, fun j t ht => by
        rw [Tryz.params5] at ht
        have hm : t ∈ [22] := by simpa using Array.mem_of_getElem? ht
        have hall : ([22].all fun u => !Tryz.prog.wantsStandIn u) = true := cd4RowCL
        exact (show Tryz.prog.wantsStandIn t = false by simpa using List.all_eq_true.1 hall t hm)⟩)
    cd5RowCL
#print axioms fnRunCommandsLog_holds
end Go.Proofs.YtnlhpkbphdbknaaGreatDoor
