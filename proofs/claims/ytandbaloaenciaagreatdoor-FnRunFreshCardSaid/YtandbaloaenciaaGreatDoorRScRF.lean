/-
  The card.
-/
import Derived.Test.YtandbaloaenciaaGreatDoorRSRF
import Derived.Test.YtandbaloaenciaaGreatDoorRSdRF
import Derived.Test.YtandbaloaenciaaGreatDoorRSeRF
import Derived.Test.YtandbaloaenciaaGreatDoorRSfRF
namespace Go.Proofs.YtandbaloaenciaaGreatDoor
open Go.ChangeShapes Go.WideShapes Go.ChangeAt Go.RowKit

/-- THE TIED CARD. -/
theorem fnRunFresh_holds : Rows.FnRunFreshCardSaid :=
  Claim7.holds_tied_plain_at .later [] [.data, .pinned] true (true, "11cccccaee7ebd88f0ed7636e036876362389fca871cf43d70f996d48003a653") false
    zab (fun _ h => by cases h) cd1RowRF (fun _ h => by cases h) fnRunFresh_row_tie rfl ⟨rfl, rfl⟩ cd2RowRF rfl
    (fun f fn hf hfn => by
      obtain rfl : f = 4 := Option.some.inj ((show Tryz.prog.funcNamed Rows.fnRunFreshRow.func = some 4 by kernel_rfl).symm.trans hf) |>.symm
      obtain rfl : fn = Tryz.f4 := (Option.some.inj (Tryz.func4.symm.trans hfn)).symm
      exact ⟨cd3RowRF, fun j t ht => by
        rw [Tryz.params4] at ht
        have hm : t ∈ [50] := by simpa using Array.mem_of_getElem? ht
        have hall : ([50].all fun u => !Tryz.prog.wantsStandIn u) = true := cd4RowRF
        exact (show Tryz.prog.wantsStandIn t = false by simpa using List.all_eq_true.1 hall t hm)⟩)
    cd5RowRF
#print axioms fnRunFresh_holds
end Go.Proofs.YtandbaloaenciaaGreatDoor
