/-
  Closing facts of a row, one theorem each.
-/
import Derived.Test.YtmenakmafojpaaaGreatDoorRB
import Derived.Test.YtmenakmafojpaaaGreatDoorCards
import Derived.Test.YtmenakmafojpaaaGreatDoorTie
import Derived.ProofKit
import Derived.LaidMore
import Derived.Lay
import Derived.OpenShut
import Derived.Stop.Joined
import Derived.SevenTiedAt
namespace Go.Proofs.YtmenakmafojpaaaGreatDoor
open Go.ChangeShapes Go.WideShapes Go.ChangeAt Go.RowKit
theorem jf0RowIO : (Rows.fnImportOneRow.wf (OpenSpec.ofChange Rows.fnImportOneSpec)) = true := by kernel_rfl
theorem jf1RowIO : (laidOutB Tryz.prog) = true := by kernel_rfl
theorem jf2RowIO : (mapsRowed Tryz.prog) = true := by kernel_rfl
theorem jf3RowIO : (Tryz.f5.params.all (Tryz.prog.readableRec ·)) = true := by kernel_rfl
theorem jf4RowIO : (namedTie Tryz.prog Rows.fnImportOneRow.named Rows.fnImportOneSpec.vars) = true := by kernel_rfl
theorem jf5RowIO : ((Rows.fnImportOneRow.stops == [])) = true := by kernel_rfl
theorem jf6RowIO : ((Tryz.prog.stops == [])) = true := by kernel_rfl
theorem jf7RowIO : ((Rows.fnImportOneRow.knobs == [])) = true := by kernel_rfl
theorem jf8RowIO : ((Tryz.prog.stopKnobs == [])) = true := by kernel_rfl
theorem jf9RowIO : ((Rows.fnImportOneRow.inPlace == Tryz.prog.inPlace 5)) = true := by kernel_rfl
theorem jf10RowIO : ((Rows.fnImportOneRow.unfollowed == Tryz.prog.unfollowed 5)) = true := by kernel_rfl
theorem jf11RowIO : ((Rows.fnImportOneRow.recurses == Tryz.prog.recurses 5)) = true := by kernel_rfl
end Go.Proofs.YtmenakmafojpaaaGreatDoor
