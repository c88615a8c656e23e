/-
  Facts of the card.
-/
import Derived.Test.YtnlhpkbphdbknaaGreatDoorRB
import Derived.Test.YtnlhpkbphdbknaaGreatDoorCards
import Derived.Test.YtnlhpkbphdbknaaGreatDoorTie
import Derived.ProofKit
import Derived.LaidMore
import Derived.Lay
import Derived.OpenShut
import Derived.Stop.Joined
import Derived.SevenTiedAt
namespace Go.Proofs.YtnlhpkbphdbknaaGreatDoor
open Go.ChangeShapes Go.WideShapes Go.ChangeAt Go.RowKit
theorem cd5RowCR : false = Rows.fnRunCommandsReloadRow.goesBy Tryz.prog := by kernel_rfl
end Go.Proofs.YtnlhpkbphdbknaaGreatDoor
