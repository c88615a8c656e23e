/-
  The card.
-/
import Derived.Test.YtnlhpkbphdbknaaGreatDoorRSCF
import Derived.Test.YtnlhpkbphdbknaaGreatDoorRSdCF
import Derived.Test.YtnlhpkbphdbknaaGreatDoorRSeCF
import Derived.Test.YtnlhpkbphdbknaaGreatDoorRSfCF
namespace Go.Proofs.YtnlhpkbphdbknaaGreatDoor
open Go.ChangeShapes Go.WideShapes Go.ChangeAt Go.RowKit

/-- THE TIED CARD. -/
theorem fnRunCommandsForget_holds : Rows.FnRunCommandsForgetCardSaid :=
  Claim7.holds_tied_plain_at .later [] [.data, .pinned] true (true, "0bf09a092c0d4304c3184371e16a08630da025a5ed993b172cc94d67496ace16") false
    YL (fun _ h => by cases h) cd1RowCF (fun _ h => by cases h) fnRunCommandsForget_row_tie rfl ⟨rfl, rfl⟩ cd2RowCF rfl
    (fun f fn hf hfn => by
      obtain rfl : f = 7 := Option.some.inj ((show Tryz.prog.funcNamed Rows.fnRunCommandsForgetRow.func = some 7 by kernel_rfl).symm.trans hf) |>.symm
      obtain rfl : fn = Tryz.f7 := (Option.some.inj (Tryz.func7.symm.trans hfn)).symm
      exact ⟨cd3RowCF, fun j t ht => by
        rw [Tryz.params7] at ht
        have hm : t ∈ [22] := by simpa using Array.mem_of_getElem? ht
        have hall : ([22].all fun u => !Tryz.prog.wantsStandIn u) = true := cd4RowCF
        exact (show Tryz.prog.wantsStandIn t = false by simpa using List.all_eq_true.1 hall t hm)⟩)
    cd5RowCF
#print axioms fnRunCommandsForget_holds
end Go.Proofs.YtnlhpkbphdbknaaGreatDoor
