/-
  Facts of the card.
-/
import Derived.Test.YtiiiokblnnlapaaGreatDoorRB
import Derived.Test.YtiiiokblnnlapaaGreatDoorCards
import Derived.Test.YtiiiokblnnlapaaGreatDoorTie
import Derived.ProofKit
import Derived.LaidMore
import Derived.Lay
import Derived.OpenShut
import Derived.Stop.Joined
import Derived.SevenTiedAt
namespace Go.Proofs.YtiiiokblnnlapaaGreatDoor
open Go.ChangeShapes Go.WideShapes Go.ChangeAt Go.RowKit
theorem cd1RowIO : Rows.fnExactImportOneRow.wfByText (OpenSpec.ofChange Rows.fnExactImportOneSpec) = true := by kernel_rfl
theorem cd2RowIO : Tryz.prog.mainIs = some (true, ("4e9900ed4bdef7d633a70bd1ff80baf9df292c2e2a39bc7104f554d1344b45a1" : String).toList) := by kernel_rfl
theorem cd3RowIO : false = Tryz.prog.looks [] := by kernel_rfl
end Go.Proofs.YtiiiokblnnlapaaGreatDoor
