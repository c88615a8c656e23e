/-
  The card.
-/
import Derived.Test.YtnlhpkbphdbknaaGreatDoorRSCC
import Derived.Test.YtnlhpkbphdbknaaGreatDoorRSdCC
import Derived.Test.YtnlhpkbphdbknaaGreatDoorRSeCC
import Derived.Test.YtnlhpkbphdbknaaGreatDoorRSfCC
namespace Go.Proofs.YtnlhpkbphdbknaaGreatDoor
open Go.ChangeShapes Go.WideShapes Go.ChangeAt Go.RowKit

/-- THE TIED CARD. -/
theorem fnRunCommandsCache_holds : Rows.FnRunCommandsCacheCardSaid :=
  Claim7.holds_tied_plain_at .later [] [.data, .pinned] true (true, "0bf09a092c0d4304c3184371e16a08630da025a5ed993b172cc94d67496ace16") false
    YZ (fun _ h => by cases h) cd1RowCC (fun _ h => by cases h) fnRunCommandsCache_row_tie rfl ⟨rfl, rfl⟩ cd2RowCC rfl
    (fun f fn hf hfn => by
      obtain rfl : f = 6 := Option.some.inj ((show Tryz.prog.funcNamed Rows.fnRunCommandsCacheRow.func = some 6 by kernel_rfl).symm.trans hf) |>.symm
      obtain rfl : fn = Tryz.f6 := (Option.some.inj (Tryz.func6.symm.trans hfn)).symm
      exact ⟨cd3RowCC, fun j t ht => by
        rw [Tryz.params6] at ht
        have hm : t ∈ [22] := by simpa using Array.mem_of_getElem? ht
        have hall : ([22].all fun u => !Tryz.prog.wantsStandIn u) = true := cd4RowCC
        exact (show Tryz.prog.wantsStandIn t = false by simpa using List.all_eq_true.1 hall t hm)⟩)
    cd5RowCC
#print axioms fnRunCommandsCache_holds
end Go.Proofs.YtnlhpkbphdbknaaGreatDoor
