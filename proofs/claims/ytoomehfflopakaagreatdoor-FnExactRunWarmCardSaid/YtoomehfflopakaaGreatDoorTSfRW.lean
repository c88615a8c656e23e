/-
  Facts of the card.
-/
import Derived.Test.YtoomehfflopakaaGreatDoorTB
import Derived.Test.YtoomehfflopakaaGreatDoorCards
import Derived.Test.YtoomehfflopakaaGreatDoorTie
import Derived.ProofKit
import Derived.LaidMore
import Derived.Lay
import Derived.OpenShut
import Derived.Stop.Joined
import Derived.SevenTiedAt
namespace Go.Proofs.YtoomehfflopakaaGreatDoor
open Go.ChangeShapes Go.WideShapes Go.ChangeAt Go.RowKit
theorem cd5RowRW : false = Rows.fnExactRunWarmRow.goesBy Tryz.prog := by kernel_rfl
end Go.Proofs.YtoomehfflopakaaGreatDoor
