/-
  Facts of the card.
-/
import Derived.Test.YtpmkkijamfgaeaaGreatDoorRB
import Derived.Test.YtpmkkijamfgaeaaGreatDoorCards
import Derived.Test.YtpmkkijamfgaeaaGreatDoorTie
import Derived.ProofKit
import Derived.LaidMore
import Derived.Lay
import Derived.OpenShut
import Derived.Stop.Joined
import Derived.SevenTiedAt
namespace Go.Proofs.YtpmkkijamfgaeaaGreatDoor
open Go.ChangeShapes Go.WideShapes Go.ChangeAt Go.RowKit
theorem cd1RowPO : Rows.fnPlainOrderRow.wfByText (OpenSpec.ofChange Rows.fnPlainOrderSpec) = true := by kernel_rfl
theorem cd2RowPO : Tryz.prog.mainIs = some (true, ("546e3af634571d826443a0f4e6143e06090daa87b2611f5ff48d1a1d1864eee7" : String).toList) := by kernel_rfl
theorem cd3RowPO : false = Tryz.prog.looks [] := by kernel_rfl
end Go.Proofs.YtpmkkijamfgaeaaGreatDoor
