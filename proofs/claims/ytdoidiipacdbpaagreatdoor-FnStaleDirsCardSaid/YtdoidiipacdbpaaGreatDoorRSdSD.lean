/-
  Facts of the card.
-/
import Derived.Test.YtdoidiipacdbpaaGreatDoorRB
import Derived.Test.YtdoidiipacdbpaaGreatDoorCards
import Derived.Test.YtdoidiipacdbpaaGreatDoorTie
import Derived.ProofKit
import Derived.LaidMore
import Derived.Lay
import Derived.OpenShut
import Derived.Stop.Joined
import Derived.SevenTiedAt
namespace Go.Proofs.YtdoidiipacdbpaaGreatDoor
open Go.ChangeShapes Go.WideShapes Go.ChangeAt Go.RowKit
theorem cd1RowSD : Rows.fnStaleDirsRow.wfByText (OpenSpec.ofChange Rows.fnStaleDirsSpec) = true := by kernel_rfl
theorem cd2RowSD : Tryz.prog.mainIs = some (true, ("d39a37ef857ee5445d6dffcdb8ae23fa2d484e2491b35467d31b01854d04fcd6" : String).toList) := by kernel_rfl
theorem cd3RowSD : false = Tryz.prog.looks [] := by kernel_rfl
end Go.Proofs.YtdoidiipacdbpaaGreatDoor
