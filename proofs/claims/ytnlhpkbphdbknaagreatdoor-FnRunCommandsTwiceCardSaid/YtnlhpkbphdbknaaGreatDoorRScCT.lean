/-
  The card.
-/
import Derived.Test.YtnlhpkbphdbknaaGreatDoorRSCT
import Derived.Test.YtnlhpkbphdbknaaGreatDoorRSdCT
import Derived.Test.YtnlhpkbphdbknaaGreatDoorRSeCT
import Derived.Test.YtnlhpkbphdbknaaGreatDoorRSfCT
namespace Go.Proofs.YtnlhpkbphdbknaaGreatDoor
open Go.ChangeShapes Go.WideShapes Go.ChangeAt Go.RowKit

/-- THE TIED CARD. -/
theorem fnRunCommandsTwice_holds : Rows.FnRunCommandsTwiceCardSaid :=
  Claim7.holds_tied_plain_at .later [] [.data, .pinned] true (true, "0bf09a092c0d4304c3184371e16a08630da025a5ed993b172cc94d67496ace16") false
    YS (fun _ h => by cases h) cd1RowCT (fun _ h => by cases h) fnRunCommandsTwice_row_tie rfl ⟨rfl, rfl⟩ cd2RowCT rfl
    (fun f fn hf hfn => by
      obtain rfl : f = 4 := Option.some.inj ((show Tryz.prog.funcNamed Rows.fnRunCommandsTwiceRow.func = some 4 by kernel_rfl).symm.trans hf) |>.symm
      obtain rfl : fn = Tryz.f4 := (Option.some.inj (Tryz.func4.symm.trans hfn)).symm
      exact ⟨cd3RowCT, fun j t ht => by
        rw [Tryz.params4] at ht
        have hm : t ∈ [22] := by simpa using Array.mem_of_getElem? ht
        have hall : ([22].all fun u => !Tryz.prog.wantsStandIn u) = true := cd4RowCT
        exact (show Tryz.prog.wantsStandIn t = false by simpa using List.all_eq_true.1 hall t hm)⟩)
    cd5RowCT
#print axioms fnRunCommandsTwice_holds
end Go.Proofs.YtnlhpkbphdbknaaGreatDoor
