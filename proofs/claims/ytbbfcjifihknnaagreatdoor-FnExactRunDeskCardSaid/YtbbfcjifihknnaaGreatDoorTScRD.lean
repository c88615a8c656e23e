/-
  The card.
-/
import Derived.Test.YtbbfcjifihknnaaGreatDoorTSRD
import Derived.Test.YtbbfcjifihknnaaGreatDoorTSdRD
import Derived.Test.YtbbfcjifihknnaaGreatDoorTSeRD
import Derived.Test.YtbbfcjifihknnaaGreatDoorTSfRD
namespace Go.Proofs.YtbbfcjifihknnaaGreatDoor
open Go.ChangeShapes Go.WideShapes Go.ChangeAt Go.RowKit

/-- THE TIED CARD. -/
theorem fnExactRunDesk_holds : Rows.FnExactRunDeskCardSaid :=
  Claim7.holds_tied_plain_at .later [] [.data, .data, .data, .data, .sentinel, .sentinel, .data, .data, .pinned] true (true, "37d503373db38bad853776546aff64023054700c58866ca72f372d1019198a86") true
    Jx (fun _ h => by cases h) cd1RowRD (fun _ h => by cases h) fnExactRunDesk_row_tie rfl ⟨rfl, rfl⟩ cd2RowRD rfl
    (fun f fn hf hfn => by
      obtain rfl : f = 6 := Option.some.inj ((show Tryz.prog.funcNamed Rows.fnExactRunDeskRow.func = some 6 by kernel_rfl).symm.trans hf) |>.symm
      obtain rfl : fn = Tryz.f6 := (Option.some.inj (Tryz.func6.symm.trans hfn)).symm
      exact ⟨cd3RowRD, fun j t ht => by
        rw [Tryz.params6] at ht
        have hm : t ∈ [9, 25, 64] := by simpa using Array.mem_of_getElem? ht
        have hall : ([9, 25, 64].all fun u => !Tryz.prog.wantsStandIn u) = true := cd4RowRD
        exact (show Tryz.prog.wantsStandIn t = false by simpa using List.all_eq_true.1 hall t hm)⟩)
    cd5RowRD
#print axioms fnExactRunDesk_holds
end Go.Proofs.YtbbfcjifihknnaaGreatDoor
