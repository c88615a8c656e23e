/-
  Facts of the card.
-/
import Derived.Test.YtbbfcjifihknnaaGreatDoorTB
import Derived.Test.YtbbfcjifihknnaaGreatDoorCards
import Derived.Test.YtbbfcjifihknnaaGreatDoorTie
import Derived.ProofKit
import Derived.LaidMore
import Derived.Lay
import Derived.OpenShut
import Derived.Stop.Joined
import Derived.SevenTiedAt
import Derived.OpenVars
namespace Go.Proofs.YtbbfcjifihknnaaGreatDoor
open Go.ChangeShapes Go.WideShapes Go.ChangeAt Go.RowKit
theorem cd1RowRD : Rows.fnExactRunDeskRow.wfByText (OpenSpec.ofChange Rows.fnExactRunDeskSpec) = true := by kernel_rfl
theorem cd2RowRD : Tryz.prog.mainIs = some (true, ("37d503373db38bad853776546aff64023054700c58866ca72f372d1019198a86" : String).toList) := by kernel_rfl
theorem cd3RowRD : true = Tryz.prog.looks [] := by kernel_rfl
end Go.Proofs.YtbbfcjifihknnaaGreatDoor
