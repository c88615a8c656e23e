/-
  The card.
-/
import Derived.Test.YtpmkkijamfgaeaaGreatDoorRSPO
import Derived.Test.YtpmkkijamfgaeaaGreatDoorRSdPO
import Derived.Test.YtpmkkijamfgaeaaGreatDoorRSePO
import Derived.Test.YtpmkkijamfgaeaaGreatDoorRSfPO
namespace Go.Proofs.YtpmkkijamfgaeaaGreatDoor
open Go.ChangeShapes Go.WideShapes Go.ChangeAt Go.RowKit

/-- THE TIED CARD. -/
theorem fnPlainOrder_holds : Rows.FnPlainOrderCardSaid :=
  Claim7.holds_tied_plain_at .later [] [.data, .pinned] true (true, "546e3af634571d826443a0f4e6143e06090daa87b2611f5ff48d1a1d1864eee7") false
    JH (fun _ h => by cases h) cd1RowPO (fun _ h => by cases h) fnPlainOrder_row_tie rfl ⟨rfl, rfl⟩ cd2RowPO rfl
    (fun f fn hf hfn => by
      obtain rfl : f = 5 := Option.some.inj ((show Tryz.prog.funcNamed Rows.fnPlainOrderRow.func = some 5 by kernel_rfl).symm.trans hf) |>.symm
      obtain rfl : fn = Tryz.f5 := (Option.some.inj (Tryz.func5.symm.trans hfn)).symm
      exact ⟨cd3RowPO, fun j t ht => by
        rw [Tryz.params5] at ht
        have hm : t ∈ [22] := by simpa using Array.mem_of_getElem? ht
        have hall : ([22].all fun u => !Tryz.prog.wantsStandIn u) = true := cd4RowPO
        exact (show Tryz.prog.wantsStandIn t = false by simpa using List.all_eq_true.1 hall t hm)⟩)
    cd5RowPO
#print axioms fnPlainOrder_holds
end Go.Proofs.YtpmkkijamfgaeaaGreatDoor
