/-
  Facts of the card.
-/
import Derived.Test.YtandbaloaenciaaGreatDoorRB
import Derived.Test.YtandbaloaenciaaGreatDoorCards
import Derived.Test.YtandbaloaenciaaGreatDoorTie
import Derived.ProofKit
import Derived.LaidMore
import Derived.Lay
import Derived.OpenShut
import Derived.Stop.Joined
import Derived.SevenTiedAt
namespace Go.Proofs.YtandbaloaenciaaGreatDoor
open Go.ChangeShapes Go.WideShapes Go.ChangeAt Go.RowKit
theorem cd1RowRE : Rows.fnExactRunFreshRow.wfByText (OpenSpec.ofChange Rows.fnExactRunFreshSpec) = true := by kernel_rfl
theorem cd2RowRE : Tryz.prog.mainIs = some (true, ("11cccccaee7ebd88f0ed7636e036876362389fca871cf43d70f996d48003a653" : String).toList) := by kernel_rfl
theorem cd3RowRE : false = Tryz.prog.looks [] := by kernel_rfl
end Go.Proofs.YtandbaloaenciaaGreatDoor
