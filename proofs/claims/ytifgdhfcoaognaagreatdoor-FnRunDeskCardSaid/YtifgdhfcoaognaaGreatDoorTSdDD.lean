/-
  Facts of the card.
-/
import Derived.Test.YtifgdhfcoaognaaGreatDoorTB
import Derived.Test.YtifgdhfcoaognaaGreatDoorCards
import Derived.Test.YtifgdhfcoaognaaGreatDoorTie
import Derived.ProofKit
import Derived.LaidMore
import Derived.Lay
import Derived.OpenShut
import Derived.Stop.Joined
import Derived.SevenTiedAt
import Derived.OpenVars
namespace Go.Proofs.YtifgdhfcoaognaaGreatDoor
open Go.ChangeShapes Go.WideShapes Go.ChangeAt Go.RowKit
theorem cd1RowDD : Rows.fnRunDeskRow.wfByText (OpenSpec.ofChange Rows.fnRunDeskSpec) = true := by kernel_rfl
theorem cd2RowDD : Tryz.prog.mainIs = some (true, ("b63d06eee457281631f676e7ef85794e8d1c529aa05ae4a475e3284c05fcdd79" : String).toList) := by kernel_rfl
theorem cd3RowDD : true = Tryz.prog.looks [] := by kernel_rfl
end Go.Proofs.YtifgdhfcoaognaaGreatDoor
