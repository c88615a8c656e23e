/-
  The card.
-/
import Derived.Test.YtoomehfflopakaaGreatDoorTSRW
import Derived.Test.YtoomehfflopakaaGreatDoorTSdRW
import Derived.Test.YtoomehfflopakaaGreatDoorTSeRW
import Derived.Test.YtoomehfflopakaaGreatDoorTSfRW
namespace Go.Proofs.YtoomehfflopakaaGreatDoor
open Go.ChangeShapes Go.WideShapes Go.ChangeAt Go.RowKit

/-- THE TIED CARD. -/
theorem fnExactRunWarm_holds : Rows.FnExactRunWarmCardSaid :=
  Claim7.holds_tied_plain_at .later [] [.data, .pinned] true (true, "2ec03bb2e0931e9b423c365afe04497c5227366a95f656d93ed467659a11a828") false
    zap (fun _ h => by cases h) cd1RowRW (fun _ h => by cases h) fnExactRunWarm_row_tie rfl ⟨rfl, rfl⟩ cd2RowRW rfl
    (fun f fn hf hfn => by
      obtain rfl : f = 4 := Option.some.inj ((show Tryz.prog.funcNamed Rows.fnExactRunWarmRow.func = some 4 by kernel_rfl).symm.trans hf) |>.symm
      obtain rfl : fn = Tryz.f4 := (Option.some.inj (Tryz.func4.symm.trans hfn)).symm
      exact ⟨cd3RowRW, fun j t ht => by
        rw [Tryz.params4] at ht
        have hm : t ∈ [22, 23, 3, 3] := by simpa using Array.mem_of_getElem? ht
        have hall : ([22, 23, 3, 3].all fun u => !Tryz.prog.wantsStandIn u) = true := cd4RowRW
        exact (show Tryz.prog.wantsStandIn t = false by simpa using List.all_eq_true.1 hall t hm)⟩)
    cd5RowRW
#print axioms fnExactRunWarm_holds
end Go.Proofs.YtoomehfflopakaaGreatDoor
