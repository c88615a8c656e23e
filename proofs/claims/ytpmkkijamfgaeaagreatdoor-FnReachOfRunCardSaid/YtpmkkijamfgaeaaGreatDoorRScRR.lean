/-
  The card.
-/
import Derived.Test.YtpmkkijamfgaeaaGreatDoorRSRR
import Derived.Test.YtpmkkijamfgaeaaGreatDoorRSdRR
import Derived.Test.YtpmkkijamfgaeaaGreatDoorRSeRR
import Derived.Test.YtpmkkijamfgaeaaGreatDoorRSfRR
namespace Go.Proofs.YtpmkkijamfgaeaaGreatDoor
open Go.ChangeShapes Go.WideShapes Go.ChangeAt Go.RowKit

/-- THE TIED CARD. -/
theorem fnReachOfRun_holds : Rows.FnReachOfRunCardSaid :=
  Claim7.holds_tied_plain_at .later [] [.data, .pinned] true (true, "546e3af634571d826443a0f4e6143e06090daa87b2611f5ff48d1a1d1864eee7") false
    W0 (fun _ h => by cases h) cd1RowRR (fun _ h => by cases h) fnReachOfRun_row_tie rfl ⟨rfl, rfl⟩ cd2RowRR rfl
    (fun f fn hf hfn => by
      obtain rfl : f = 3 := Option.some.inj ((show Tryz.prog.funcNamed Rows.fnReachOfRunRow.func = some 3 by kernel_rfl).symm.trans hf) |>.symm
      obtain rfl : fn = Tryz.f3 := (Option.some.inj (Tryz.func3.symm.trans hfn)).symm
      exact ⟨cd3RowRR, fun j t ht => by
        rw [Tryz.params3] at ht
        have hm : t ∈ [22] := by simpa using Array.mem_of_getElem? ht
        have hall : ([22].all fun u => !Tryz.prog.wantsStandIn u) = true := cd4RowRR
        exact (show Tryz.prog.wantsStandIn t = false by simpa using List.all_eq_true.1 hall t hm)⟩)
    cd5RowRR
#print axioms fnReachOfRun_holds
end Go.Proofs.YtpmkkijamfgaeaaGreatDoor
