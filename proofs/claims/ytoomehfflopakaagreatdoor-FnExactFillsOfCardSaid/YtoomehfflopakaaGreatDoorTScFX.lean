/-
  The card.
-/
import Derived.Test.YtoomehfflopakaaGreatDoorTSFX
import Derived.Test.YtoomehfflopakaaGreatDoorTSdFX
import Derived.Test.YtoomehfflopakaaGreatDoorTSeFX
import Derived.Test.YtoomehfflopakaaGreatDoorTSfFX
namespace Go.Proofs.YtoomehfflopakaaGreatDoor
open Go.ChangeShapes Go.WideShapes Go.ChangeAt Go.RowKit

/-- THE TIED CARD. -/
theorem fnExactFillsOf_holds : Rows.FnExactFillsOfCardSaid :=
  Claim7.holds_tied_plain_at .later [] [.data, .pinned] true (true, "2ec03bb2e0931e9b423c365afe04497c5227366a95f656d93ed467659a11a828") false
    QY9 (fun _ h => by cases h) cd1RowFX (fun _ h => by cases h) fnExactFillsOf_row_tie rfl ⟨rfl, rfl⟩ cd2RowFX rfl
    (fun f fn hf hfn => by
      obtain rfl : f = 3 := Option.some.inj ((show Tryz.prog.funcNamed Rows.fnExactFillsOfRow.func = some 3 by kernel_rfl).symm.trans hf) |>.symm
      obtain rfl : fn = Tryz.f3 := (Option.some.inj (Tryz.func3.symm.trans hfn)).symm
      exact ⟨cd3RowFX, fun j t ht => by
        rw [Tryz.params3] at ht
        have hm : t ∈ [22, 23, 3] := by simpa using Array.mem_of_getElem? ht
        have hall : ([22, 23, 3].all fun u => !Tryz.prog.wantsStandIn u) = true := cd4RowFX
        exact (show Tryz.prog.wantsStandIn t = false by simpa using List.all_eq_true.1 hall t hm)⟩)
    cd5RowFX
#print axioms fnExactFillsOf_holds
end Go.Proofs.YtoomehfflopakaaGreatDoor
