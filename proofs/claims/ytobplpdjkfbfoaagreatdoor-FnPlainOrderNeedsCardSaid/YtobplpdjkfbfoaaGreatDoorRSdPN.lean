/-
  Facts of the card.
-/
import Derived.Test.YtobplpdjkfbfoaaGreatDoorRB
import Derived.Test.YtobplpdjkfbfoaaGreatDoorCards
import Derived.Test.YtobplpdjkfbfoaaGreatDoorTie
import Derived.ProofKit
import Derived.LaidMore
import Derived.Lay
import Derived.OpenShut
import Derived.Stop.Joined
import Derived.SevenTiedAt
namespace Go.Proofs.YtobplpdjkfbfoaaGreatDoor
open Go.ChangeShapes Go.WideShapes Go.ChangeAt Go.RowKit
theorem cd1RowPN : Rows.fnPlainOrderNeedsRow.wfByText (OpenSpec.ofChange Rows.fnPlainOrderNeedsSpec) = true := by kernel_rfl
theorem cd2RowPN : Tryz.prog.mainIs = some (true, ("bdafe80bb55cfa30775f06f97a283c401f5470d5339780ed40674d2007fbe984" : String).toList) := by kernel_rfl
theorem cd3RowPN : false = Tryz.prog.looks [] := by kernel_rfl
end Go.Proofs.YtobplpdjkfbfoaaGreatDoor
