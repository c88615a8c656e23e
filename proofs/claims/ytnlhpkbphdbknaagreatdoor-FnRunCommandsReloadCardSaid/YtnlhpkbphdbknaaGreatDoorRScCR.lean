/-
  The card.
-/
import Derived.Test.YtnlhpkbphdbknaaGreatDoorRSCR
import Derived.Test.YtnlhpkbphdbknaaGreatDoorRSdCR
import Derived.Test.YtnlhpkbphdbknaaGreatDoorRSeCR
import Derived.Test.YtnlhpkbphdbknaaGreatDoorRSfCR
namespace Go.Proofs.YtnlhpkbphdbknaaGreatDoor
open Go.ChangeShapes Go.WideShapes Go.ChangeAt Go.RowKit

/-- THE TIED CARD. -/
theorem fnRunCommandsReload_holds : Rows.FnRunCommandsReloadCardSaid :=
  Claim7.holds_tied_plain_at .later [] [.data, .pinned] true (true, "0bf09a092c0d4304c3184371e16a08630da025a5ed993b172cc94d67496ace16") false
    YM (fun _ h => by cases h) cd1RowCR (fun _ h => by cases h) fnRunCommandsReload_row_tie rfl ⟨rfl, rfl⟩ cd2RowCR rfl
    (fun f fn hf hfn => by
      obtain rfl : f = 8 := Option.some.inj ((show Tryz.prog.funcNamed Rows.fnRunCommandsReloadRow.func = some 8 by kernel_rfl).symm.trans hf) |>.symm
      obtain rfl : fn = Tryz.f8 := (Option.some.inj (Tryz.func8.symm.trans hfn)).symm
      exact ⟨cd3RowCR, fun j t ht => by
        rw [Tryz.params8] at ht
        have hm : t ∈ [22] := by simpa using Array.mem_of_getElem? ht
        have hall : ([22].all fun u => !Tryz.prog.wantsStandIn u) = true := cd4RowCR
        exact (show Tryz.prog.wantsStandIn t = false by simpa using List.all_eq_true.1 hall t hm)⟩)
    cd5RowCR
#print axioms fnRunCommandsReload_holds
end Go.Proofs.YtnlhpkbphdbknaaGreatDoor
