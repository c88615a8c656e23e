/-
  Facts of the card.
-/
import Derived.Test.YtpmkkijamfgaeaaGreatDoorRB
import Derived.Test.YtpmkkijamfgaeaaGreatDoorCards
import Derived.Test.YtpmkkijamfgaeaaGreatDoorTie
import Derived.ProofKit
import Derived.LaidMore
import Derived.Lay
import Derived.OpenShut
import Derived.Stop.Joined
import Derived.SevenTiedAt
namespace Go.Proofs.YtpmkkijamfgaeaaGreatDoor
open Go.ChangeShapes Go.WideShapes Go.ChangeAt Go.RowKit
theorem cd5RowPO : false = Rows.fnPlainOrderRow.goesBy Tryz.prog := by kernel_rfl
end Go.Proofs.YtpmkkijamfgaeaaGreatDoor
