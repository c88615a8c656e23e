/-
  The card.
-/
import Derived.Test.YtdoidiipacdbpaaGreatDoorRSF2
import Derived.Test.YtdoidiipacdbpaaGreatDoorRSdF2
import Derived.Test.YtdoidiipacdbpaaGreatDoorRSeF2
import Derived.Test.YtdoidiipacdbpaaGreatDoorRSfF2
namespace Go.Proofs.YtdoidiipacdbpaaGreatDoor
open Go.ChangeShapes Go.WideShapes Go.ChangeAt Go.RowKit

/-- THE TIED CARD. -/
theorem fnFindCachedTwice_holds : Rows.FnFindCachedTwiceCardSaid :=
  Claim7.holds_tied_plain_at .later [] [.data, .pinned] true (true, "d39a37ef857ee5445d6dffcdb8ae23fa2d484e2491b35467d31b01854d04fcd6") false
    Xn (fun _ h => by cases h) cd1RowF2 (fun _ h => by cases h) fnFindCachedTwice_row_tie rfl ⟨rfl, rfl⟩ cd2RowF2 rfl
    (fun f fn hf hfn => by
      obtain rfl : f = 5 := Option.some.inj ((show Tryz.prog.funcNamed Rows.fnFindCachedTwiceRow.func = some 5 by kernel_rfl).symm.trans hf) |>.symm
      obtain rfl : fn = Tryz.f5 := (Option.some.inj (Tryz.func5.symm.trans hfn)).symm
      exact ⟨cd3RowF2, fun j t ht => by
        rw [Tryz.params5] at ht
        have hm : t ∈ [57] := by simpa using Array.mem_of_getElem? ht
        have hall : ([57].all fun u => !Tryz.prog.wantsStandIn u) = true := cd4RowF2
        exact (show Tryz.prog.wantsStandIn t = false by simpa using List.all_eq_true.1 hall t hm)⟩)
    cd5RowF2
#print axioms fnFindCachedTwice_holds
end Go.Proofs.YtdoidiipacdbpaaGreatDoor
