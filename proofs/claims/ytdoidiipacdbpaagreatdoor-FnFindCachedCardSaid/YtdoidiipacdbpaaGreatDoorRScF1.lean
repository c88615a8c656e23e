/-
  The card.
-/
import Derived.Test.YtdoidiipacdbpaaGreatDoorRSF1
import Derived.Test.YtdoidiipacdbpaaGreatDoorRSdF1
import Derived.Test.YtdoidiipacdbpaaGreatDoorRSeF1
import Derived.Test.YtdoidiipacdbpaaGreatDoorRSfF1
namespace Go.Proofs.YtdoidiipacdbpaaGreatDoor
open Go.ChangeShapes Go.WideShapes Go.ChangeAt Go.RowKit

/-- THE TIED CARD. -/
theorem fnFindCached_holds : Rows.FnFindCachedCardSaid :=
  Claim7.holds_tied_plain_at .later [] [.data, .pinned] true (true, "d39a37ef857ee5445d6dffcdb8ae23fa2d484e2491b35467d31b01854d04fcd6") false
    WS (fun _ h => by cases h) cd1RowF1 (fun _ h => by cases h) fnFindCached_row_tie rfl ⟨rfl, rfl⟩ cd2RowF1 rfl
    (fun f fn hf hfn => by
      obtain rfl : f = 4 := Option.some.inj ((show Tryz.prog.funcNamed Rows.fnFindCachedRow.func = some 4 by kernel_rfl).symm.trans hf) |>.symm
      obtain rfl : fn = Tryz.f4 := (Option.some.inj (Tryz.func4.symm.trans hfn)).symm
      exact ⟨cd3RowF1, fun j t ht => by
        rw [Tryz.params4] at ht
        have hm : t ∈ [57] := by simpa using Array.mem_of_getElem? ht
        have hall : ([57].all fun u => !Tryz.prog.wantsStandIn u) = true := cd4RowF1
        exact (show Tryz.prog.wantsStandIn t = false by simpa using List.all_eq_true.1 hall t hm)⟩)
    cd5RowF1
#print axioms fnFindCached_holds
end Go.Proofs.YtdoidiipacdbpaaGreatDoor
