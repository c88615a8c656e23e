/-
  The card.
-/
import Derived.Test.YtpmkkijamfgaeaaGreatDoorRSSI
import Derived.Test.YtpmkkijamfgaeaaGreatDoorRSdSI
import Derived.Test.YtpmkkijamfgaeaaGreatDoorRSeSI
import Derived.Test.YtpmkkijamfgaeaaGreatDoorRSfSI
namespace Go.Proofs.YtpmkkijamfgaeaaGreatDoor
open Go.ChangeShapes Go.WideShapes Go.ChangeAt Go.RowKit

/-- THE TIED CARD. -/
theorem fnIsSimple_holds : Rows.FnIsSimpleCardSaid :=
  Claim7.holds_tied_plain_at .later [] [.data, .pinned] true (true, "546e3af634571d826443a0f4e6143e06090daa87b2611f5ff48d1a1d1864eee7") false
    Ju (fun _ h => by cases h) cd1RowSI (fun _ h => by cases h) fnIsSimple_row_tie rfl ⟨rfl, rfl⟩ cd2RowSI rfl
    (fun f fn hf hfn => by
      obtain rfl : f = 4 := Option.some.inj ((show Tryz.prog.funcNamed Rows.fnIsSimpleRow.func = some 4 by kernel_rfl).symm.trans hf) |>.symm
      obtain rfl : fn = Tryz.f4 := (Option.some.inj (Tryz.func4.symm.trans hfn)).symm
      exact ⟨cd3RowSI, fun j t ht => by
        rw [Tryz.params4] at ht
        have hm : t ∈ [22] := by simpa using Array.mem_of_getElem? ht
        have hall : ([22].all fun u => !Tryz.prog.wantsStandIn u) = true := cd4RowSI
        exact (show Tryz.prog.wantsStandIn t = false by simpa using List.all_eq_true.1 hall t hm)⟩)
    cd5RowSI
#print axioms fnIsSimple_holds
end Go.Proofs.YtpmkkijamfgaeaaGreatDoor
