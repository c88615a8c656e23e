/-
  Facts of the card.
-/
import Derived.Test.YtandbaloaenciaaGreatDoorRB
import Derived.Test.YtandbaloaenciaaGreatDoorCards
import Derived.Test.YtandbaloaenciaaGreatDoorTie
import Derived.ProofKit
import Derived.LaidMore
import Derived.Lay
import Derived.OpenShut
import Derived.Stop.Joined
import Derived.SevenTiedAt
namespace Go.Proofs.YtandbaloaenciaaGreatDoor
open Go.ChangeShapes Go.WideShapes Go.ChangeAt Go.RowKit
theorem cd5RowRE : false = Rows.fnExactRunFreshRow.goesBy Tryz.prog := by kernel_rfl
end Go.Proofs.YtandbaloaenciaaGreatDoor
