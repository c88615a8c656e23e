/-
  Facts of the card.
-/
import Derived.Test.YtoomehfflopakaaGreatDoorTB
import Derived.Test.YtoomehfflopakaaGreatDoorCards
import Derived.Test.YtoomehfflopakaaGreatDoorTie
import Derived.ProofKit
import Derived.LaidMore
import Derived.Lay
import Derived.OpenShut
import Derived.Stop.Joined
import Derived.SevenTiedAt
namespace Go.Proofs.YtoomehfflopakaaGreatDoor
open Go.ChangeShapes Go.WideShapes Go.ChangeAt Go.RowKit
theorem cd1RowRW : Rows.fnExactRunWarmRow.wfByText (OpenSpec.ofChange Rows.fnExactRunWarmSpec) = true := by kernel_rfl
theorem cd2RowRW : Tryz.prog.mainIs = some (true, ("2ec03bb2e0931e9b423c365afe04497c5227366a95f656d93ed467659a11a828" : String).toList) := by kernel_rfl
theorem cd3RowRW : false = Tryz.prog.looks [] := by kernel_rfl
end Go.Proofs.YtoomehfflopakaaGreatDoor
