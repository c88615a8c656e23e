/-
  Facts of the card.
-/
import Derived.Test.YtiiiokblnnlapaaGreatDoorRBLD
import Derived.Test.YtiiiokblnnlapaaGreatDoorCards
import Derived.Test.YtiiiokblnnlapaaGreatDoorTie
import Derived.ProofKit
import Derived.LaidMore
import Derived.Lay
import Derived.OpenShut
import Derived.Stop.Joined
import Derived.SevenTiedAt
namespace Go.Proofs.YtiiiokblnnlapaaGreatDoor
open Go.ChangeShapes Go.WideShapes Go.ChangeAt Go.RowKit
theorem cd1RowLD : Rows.fnDoneOrderRow.wfByText (OpenSpec.ofChange Rows.fnDoneOrderSpec) = true := by kernel_rfl
theorem cd2RowLD : Tryz.prog.mainIs = some (true, ("4e9900ed4bdef7d633a70bd1ff80baf9df292c2e2a39bc7104f554d1344b45a1" : String).toList) := by kernel_rfl
theorem cd3RowLD : false = Tryz.prog.looks [] := by kernel_rfl
end Go.Proofs.YtiiiokblnnlapaaGreatDoor
