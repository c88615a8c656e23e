/-
  Facts of the card.
-/
import Derived.Test.YtiiiokblnnlapaaGreatDoorRBLD
import Derived.Test.YtiiiokblnnlapaaGreatDoorCards
import Derived.Test.YtiiiokblnnlapaaGreatDoorTie
import Derived.ProofKit
import Derived.LaidMore
import Derived.Lay
import Derived.OpenShut
import Derived.Stop.Joined
import Derived.SevenTiedAt
namespace Go.Proofs.YtiiiokblnnlapaaGreatDoor
open Go.ChangeShapes Go.WideShapes Go.ChangeAt Go.RowKit
theorem cd5RowLD : false = Rows.fnDoneOrderRow.goesBy Tryz.prog := by kernel_rfl
end Go.Proofs.YtiiiokblnnlapaaGreatDoor
