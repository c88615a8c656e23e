/-
  Facts of the card.
-/
import Derived.Test.YtobplpdjkfbfoaaGreatDoorRB
import Derived.Test.YtobplpdjkfbfoaaGreatDoorCards
import Derived.Test.YtobplpdjkfbfoaaGreatDoorTie
import Derived.ProofKit
import Derived.LaidMore
import Derived.Lay
import Derived.OpenShut
import Derived.Stop.Joined
import Derived.SevenTiedAt
namespace Go.Proofs.YtobplpdjkfbfoaaGreatDoor
open Go.ChangeShapes Go.WideShapes Go.ChangeAt Go.RowKit
theorem cd1RowLO : Rows.fnLayersOfRow.wfByText (OpenSpec.ofChange Rows.fnLayersOfSpec) = true := by kernel_rfl
theorem cd2RowLO : Tryz.prog.mainIs = some (true, ("bdafe80bb55cfa30775f06f97a283c401f5470d5339780ed40674d2007fbe984" : String).toList) := by kernel_rfl
theorem cd3RowLO : false = Tryz.prog.looks [] := by kernel_rfl
end Go.Proofs.YtobplpdjkfbfoaaGreatDoor
