/-
  The card.
-/
import Derived.Test.YtandbaloaenciaaGreatDoorRSRE
import Derived.Test.YtandbaloaenciaaGreatDoorRSdRE
import Derived.Test.YtandbaloaenciaaGreatDoorRSeRE
import Derived.Test.YtandbaloaenciaaGreatDoorRSfRE
namespace Go.Proofs.YtandbaloaenciaaGreatDoor
open Go.ChangeShapes Go.WideShapes Go.ChangeAt Go.RowKit

/-- THE TIED CARD. -/
theorem fnExactRunFresh_holds : Rows.FnExactRunFreshCardSaid :=
  Claim7.holds_tied_plain_at .later [] [.data, .pinned] true (true, "11cccccaee7ebd88f0ed7636e036876362389fca871cf43d70f996d48003a653") false
    Jj (fun _ h => by cases h) cd1RowRE (fun _ h => by cases h) fnExactRunFresh_row_tie rfl ⟨rfl, rfl⟩ cd2RowRE rfl
    (fun f fn hf hfn => by
      obtain rfl : f = 5 := Option.some.inj ((show Tryz.prog.funcNamed Rows.fnExactRunFreshRow.func = some 5 by kernel_rfl).symm.trans hf) |>.symm
      obtain rfl : fn = Tryz.f5 := (Option.some.inj (Tryz.func5.symm.trans hfn)).symm
      exact ⟨cd3RowRE, fun j t ht => by
        rw [Tryz.params5] at ht
        have hm : t ∈ [68, 25, 3] := by simpa using Array.mem_of_getElem? ht
        have hall : ([68, 25, 3].all fun u => !Tryz.prog.wantsStandIn u) = true := cd4RowRE
        exact (show Tryz.prog.wantsStandIn t = false by simpa using List.all_eq_true.1 hall t hm)⟩)
    cd5RowRE
#print axioms fnExactRunFresh_holds
end Go.Proofs.YtandbaloaenciaaGreatDoor
