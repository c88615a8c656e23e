/-
  Facts of the card.
-/
import Derived.Test.YtmenakmafojpaaaGreatDoorRB
import Derived.Test.YtmenakmafojpaaaGreatDoorCards
import Derived.Test.YtmenakmafojpaaaGreatDoorTie
import Derived.ProofKit
import Derived.LaidMore
import Derived.Lay
import Derived.OpenShut
import Derived.Stop.Joined
import Derived.SevenTiedAt
namespace Go.Proofs.YtmenakmafojpaaaGreatDoor
open Go.ChangeShapes Go.WideShapes Go.ChangeAt Go.RowKit
theorem cd1RowPS : Rows.fnPartialSeenRow.wfByText (OpenSpec.ofChange Rows.fnPartialSeenSpec) = true := by kernel_rfl
theorem cd2RowPS : Tryz.prog.mainIs = some (true, ("adc7410465d42fa48b15859aa5ed1c2e64f585636607ee6f9e830a21692e4e2e" : String).toList) := by kernel_rfl
theorem cd3RowPS : false = Tryz.prog.looks [] := by kernel_rfl
end Go.Proofs.YtmenakmafojpaaaGreatDoor
