/-
  The card.
-/
import Derived.Test.YtdoidiipacdbpaaGreatDoorRSFO
import Derived.Test.YtdoidiipacdbpaaGreatDoorRSdFO
import Derived.Test.YtdoidiipacdbpaaGreatDoorRSeFO
import Derived.Test.YtdoidiipacdbpaaGreatDoorRSfFO
namespace Go.Proofs.YtdoidiipacdbpaaGreatDoor
open Go.ChangeShapes Go.WideShapes Go.ChangeAt Go.RowKit

/-- THE TIED CARD. -/
theorem fnFindCachedOld_holds : Rows.FnFindCachedOldCardSaid :=
  Claim7.holds_tied_plain_at .later [] [.data, .pinned] true (true, "d39a37ef857ee5445d6dffcdb8ae23fa2d484e2491b35467d31b01854d04fcd6") false
    XH (fun _ h => by cases h) cd1RowFO (fun _ h => by cases h) fnFindCachedOld_row_tie rfl ⟨rfl, rfl⟩ cd2RowFO rfl
    (fun f fn hf hfn => by
      obtain rfl : f = 6 := Option.some.inj ((show Tryz.prog.funcNamed Rows.fnFindCachedOldRow.func = some 6 by kernel_rfl).symm.trans hf) |>.symm
      obtain rfl : fn = Tryz.f6 := (Option.some.inj (Tryz.func6.symm.trans hfn)).symm
      exact ⟨cd3RowFO, fun j t ht => by
        rw [Tryz.params6] at ht
        have hm : t ∈ [57] := by simpa using Array.mem_of_getElem? ht
        have hall : ([57].all fun u => !Tryz.prog.wantsStandIn u) = true := cd4RowFO
        exact (show Tryz.prog.wantsStandIn t = false by simpa using List.all_eq_true.1 hall t hm)⟩)
    cd5RowFO
#print axioms fnFindCachedOld_holds
end Go.Proofs.YtdoidiipacdbpaaGreatDoor
