/-
  The card.
-/
import Derived.Test.YtbbfcjifihknnaaGreatDoorRSRC
import Derived.Test.YtbbfcjifihknnaaGreatDoorRSdRC
import Derived.Test.YtbbfcjifihknnaaGreatDoorRSeRC
import Derived.Test.YtbbfcjifihknnaaGreatDoorRSfRC
namespace Go.Proofs.YtbbfcjifihknnaaGreatDoor
open Go.ChangeShapes Go.WideShapes Go.ChangeAt Go.RowKit

/-- THE TIED CARD. -/
theorem fnExactRunCommands_holds : Rows.FnExactRunCommandsCardSaid :=
  Claim7.holds_tied_plain_at .later [] [.data, .pinned] true (true, "37d503373db38bad853776546aff64023054700c58866ca72f372d1019198a86") true
    XW (fun _ h => by cases h) cd1RowRC (fun _ h => by cases h) fnExactRunCommands_row_tie rfl ⟨rfl, rfl⟩ cd2RowRC rfl
    (fun f fn hf hfn => by
      obtain rfl : f = 3 := Option.some.inj ((show Tryz.prog.funcNamed Rows.fnExactRunCommandsRow.func = some 3 by kernel_rfl).symm.trans hf) |>.symm
      obtain rfl : fn = Tryz.f3 := (Option.some.inj (Tryz.func3.symm.trans hfn)).symm
      exact ⟨cd3RowRC, fun j t ht => by
        rw [Tryz.params3] at ht
        have hm : t ∈ [24, 25, 26, 3] := by simpa using Array.mem_of_getElem? ht
        have hall : ([24, 25, 26, 3].all fun u => !Tryz.prog.wantsStandIn u) = true := cd4RowRC
        exact (show Tryz.prog.wantsStandIn t = false by simpa using List.all_eq_true.1 hall t hm)⟩)
    cd5RowRC
#print axioms fnExactRunCommands_holds
end Go.Proofs.YtbbfcjifihknnaaGreatDoor
