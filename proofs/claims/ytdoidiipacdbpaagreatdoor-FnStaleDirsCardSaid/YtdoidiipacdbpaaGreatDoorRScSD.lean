/-
  The card.
-/
import Derived.Test.YtdoidiipacdbpaaGreatDoorRSSD
import Derived.Test.YtdoidiipacdbpaaGreatDoorRSdSD
import Derived.Test.YtdoidiipacdbpaaGreatDoorRSeSD
import Derived.Test.YtdoidiipacdbpaaGreatDoorRSfSD
namespace Go.Proofs.YtdoidiipacdbpaaGreatDoor
open Go.ChangeShapes Go.WideShapes Go.ChangeAt Go.RowKit

/-- THE TIED CARD. -/
theorem fnStaleDirs_holds : Rows.FnStaleDirsCardSaid :=
  Claim7.holds_tied_plain_at .later [] [.data, .pinned] true (true, "d39a37ef857ee5445d6dffcdb8ae23fa2d484e2491b35467d31b01854d04fcd6") false
    W1 (fun _ h => by cases h) cd1RowSD (fun _ h => by cases h) fnStaleDirs_row_tie rfl ⟨rfl, rfl⟩ cd2RowSD rfl
    (fun f fn hf hfn => by
      obtain rfl : f = 7 := Option.some.inj ((show Tryz.prog.funcNamed Rows.fnStaleDirsRow.func = some 7 by kernel_rfl).symm.trans hf) |>.symm
      obtain rfl : fn = Tryz.f7 := (Option.some.inj (Tryz.func7.symm.trans hfn)).symm
      exact ⟨cd3RowSD, fun j t ht => by
        rw [Tryz.params7] at ht
        have hm : t ∈ [57] := by simpa using Array.mem_of_getElem? ht
        have hall : ([57].all fun u => !Tryz.prog.wantsStandIn u) = true := cd4RowSD
        exact (show Tryz.prog.wantsStandIn t = false by simpa using List.all_eq_true.1 hall t hm)⟩)
    cd5RowSD
#print axioms fnStaleDirs_holds
end Go.Proofs.YtdoidiipacdbpaaGreatDoor
