/-
  Facts of the card.
-/
import Derived.Test.YtnlhpkbphdbknaaGreatDoorRB
import Derived.Test.YtnlhpkbphdbknaaGreatDoorCards
import Derived.Test.YtnlhpkbphdbknaaGreatDoorTie
import Derived.ProofKit
import Derived.LaidMore
import Derived.Lay
import Derived.OpenShut
import Derived.Stop.Joined
import Derived.SevenTiedAt
namespace Go.Proofs.YtnlhpkbphdbknaaGreatDoor
open Go.ChangeShapes Go.WideShapes Go.ChangeAt Go.RowKit
theorem cd1RowCR : Rows.fnRunCommandsReloadRow.wfByText (OpenSpec.ofChange Rows.fnRunCommandsReloadSpec) = true := by kernel_rfl
theorem cd2RowCR : Tryz.prog.mainIs = some (true, ("0bf09a092c0d4304c3184371e16a08630da025a5ed993b172cc94d67496ace16" : String).toList) := by kernel_rfl
theorem cd3RowCR : false = Tryz.prog.looks [] := by kernel_rfl
end Go.Proofs.YtnlhpkbphdbknaaGreatDoor
