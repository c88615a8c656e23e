/-
  Closing facts of a row, one theorem each.
-/
import Derived.Test.YtbbfcjifihknnaaGreatDoorTB
import Derived.Test.YtbbfcjifihknnaaGreatDoorCards
import Derived.Test.YtbbfcjifihknnaaGreatDoorTie
import Derived.ProofKit
import Derived.LaidMore
import Derived.Lay
import Derived.OpenShut
import Derived.Stop.Joined
import Derived.SevenTiedAt
import Derived.OpenVars
namespace Go.Proofs.YtbbfcjifihknnaaGreatDoor
open Go.ChangeShapes Go.WideShapes Go.ChangeAt Go.RowKit
theorem jf0RowRD : (Rows.fnExactRunDeskRow.wf (OpenSpec.ofChange Rows.fnExactRunDeskSpec)) = true := by kernel_rfl
theorem jf1RowRD : (laidOutB Tryz.prog) = true := by kernel_rfl
theorem jf2RowRD : (mapsRowed Tryz.prog) = true := by kernel_rfl
theorem jf3RowRD : (Tryz.f6.params.all (Tryz.prog.readableRec ·)) = true := by kernel_rfl
theorem jf4RowRD : (namedTie Tryz.prog Rows.fnExactRunDeskRow.named Rows.fnExactRunDeskSpec.vars) = true := by kernel_rfl
theorem jf5RowRD : ((Rows.fnExactRunDeskRow.stops == [])) = true := by kernel_rfl
theorem jf6RowRD : ((Tryz.prog.stops == [])) = true := by kernel_rfl
theorem jf7RowRD : ((Rows.fnExactRunDeskRow.knobs == [])) = true := by kernel_rfl
theorem jf8RowRD : ((Tryz.prog.stopKnobs == [])) = true := by kernel_rfl
theorem jf9RowRD : ((Rows.fnExactRunDeskRow.inPlace == Tryz.prog.inPlace 6)) = true := by kernel_rfl
theorem jf10RowRD : ((Rows.fnExactRunDeskRow.unfollowed == Tryz.prog.unfollowed 6)) = true := by kernel_rfl
theorem jf11RowRD : ((Rows.fnExactRunDeskRow.recurses == Tryz.prog.recurses 6)) = true := by kernel_rfl
end Go.Proofs.YtbbfcjifihknnaaGreatDoor
