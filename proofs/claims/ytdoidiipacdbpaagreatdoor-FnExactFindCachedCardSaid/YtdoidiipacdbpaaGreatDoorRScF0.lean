/-
  The card.
-/
import Derived.Test.YtdoidiipacdbpaaGreatDoorRSF0
import Derived.Test.YtdoidiipacdbpaaGreatDoorRSdF0
import Derived.Test.YtdoidiipacdbpaaGreatDoorRSeF0
import Derived.Test.YtdoidiipacdbpaaGreatDoorRSfF0
namespace Go.Proofs.YtdoidiipacdbpaaGreatDoor
open Go.ChangeShapes Go.WideShapes Go.ChangeAt Go.RowKit

/-- THE TIED CARD. -/
theorem fnExactFindCached_holds : Rows.FnExactFindCachedCardSaid :=
  Claim7.holds_tied_plain_at .later [] [.data, .pinned] true (true, "d39a37ef857ee5445d6dffcdb8ae23fa2d484e2491b35467d31b01854d04fcd6") false
    YB (fun _ h => by cases h) cd1RowF0 (fun _ h => by cases h) fnExactFindCached_row_tie rfl ⟨rfl, rfl⟩ cd2RowF0 rfl
    (fun f fn hf hfn => by
      obtain rfl : f = 3 := Option.some.inj ((show Tryz.prog.funcNamed Rows.fnExactFindCachedRow.func = some 3 by kernel_rfl).symm.trans hf) |>.symm
      obtain rfl : fn = Tryz.f3 := (Option.some.inj (Tryz.func3.symm.trans hfn)).symm
      exact ⟨cd3RowF0, fun j t ht => by
        rw [Tryz.params3] at ht
        have hm : t ∈ [24, 29, 30, 9] := by simpa using Array.mem_of_getElem? ht
        have hall : ([24, 29, 30, 9].all fun u => !Tryz.prog.wantsStandIn u) = true := cd4RowF0
        exact (show Tryz.prog.wantsStandIn t = false by simpa using List.all_eq_true.1 hall t hm)⟩)
    cd5RowF0
#print axioms fnExactFindCached_holds
end Go.Proofs.YtdoidiipacdbpaaGreatDoor
