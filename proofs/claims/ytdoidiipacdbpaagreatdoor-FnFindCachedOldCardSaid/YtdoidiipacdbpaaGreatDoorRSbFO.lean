/-
  Closing facts of a row, one theorem each.
-/
import Derived.Test.YtdoidiipacdbpaaGreatDoorRB
import Derived.Test.YtdoidiipacdbpaaGreatDoorCards
import Derived.Test.YtdoidiipacdbpaaGreatDoorTie
import Derived.ProofKit
import Derived.LaidMore
import Derived.Lay
import Derived.OpenShut
import Derived.Stop.Joined
import Derived.SevenTiedAt
namespace Go.Proofs.YtdoidiipacdbpaaGreatDoor
open Go.ChangeShapes Go.WideShapes Go.ChangeAt Go.RowKit
theorem jf12RowFO : ((Rows.fnFindCachedOldRow.named == Tryz.prog.varsNamed 6)) = true := by kernel_rfl
theorem jf13RowFO : ((Rows.fnFindCachedOldRow.maps == (Tryz.f6.params.toList ++ Rows.fnFindCachedOldSpec.plain.varTypes Tryz.prog).any (Tryz.prog.mapsRec ·))) = true := by kernel_rfl
theorem jf14RowFO : ((Rows.fnFindCachedOldRow.ifaces == (Tryz.f6.params.toList ++ Rows.fnFindCachedOldSpec.plain.varTypes Tryz.prog).any (Tryz.prog.ifacesRec ·))) = true := by kernel_rfl
theorem jf15RowFO : ((Rows.fnFindCachedOldRow.mapsOut == Tryz.prog.mapsAmong Tryz.f6.resultTypes.toList)) = true := by kernel_rfl
theorem jf16RowFO : ((Rows.fnFindCachedOldRow.loops == (Tryz.f6.params.toList ++ Rows.fnFindCachedOldSpec.plain.varTypes Tryz.prog).any (Tryz.prog.loopsFrom ·))) = true := by kernel_rfl
theorem jf17RowFO : ((Rows.fnFindCachedOldRow.wideKeys == (Tryz.f6.params.toList ++ Rows.fnFindCachedOldSpec.plain.varTypes Tryz.prog ++ Tryz.f6.resultTypes.toList).any (Tryz.prog.wideKeysFrom ·))) = true := by kernel_rfl
theorem jf18RowFO : (Rows.fnFindCachedOldSpec.vars.all (Tryz.prog.varReadable ·)) = true := by kernel_rfl
theorem jf19RowFO : (Tryz.f6.resultTypes.all (fun t => Tryz.prog.readableRec t && decide (t < Tryz.prog.types.size))) = true := by kernel_rfl
theorem jf20RowFO : ((Rows.fnFindCachedOldRow.ifacesOut == Tryz.f6.resultTypes.toList.any (Tryz.prog.ifacesRec ·))) = true := by kernel_rfl
theorem jf21RowFO : ((Rows.fnFindCachedOldRow.loopsOut == Tryz.f6.resultTypes.toList.any (Tryz.prog.loopsFrom ·))) = true := by kernel_rfl
theorem jf22RowFO : ((Rows.fnFindCachedOldRow.plainKeys == Tryz.prog.plainKeys)) = true := by kernel_rfl
theorem jf23RowFO : (Rows.fnFindCachedOldRow.shortTexts.isNone) = true := by kernel_rfl
theorem jf24RowFO : (Tryz.prog.stopsHeard) = true := by kernel_rfl
theorem jf25RowFO : (Tryz.prog.mayEnter) = true := by kernel_rfl
theorem jf26RowFO : ((Rows.fnFindCachedOldRow.lifted == Tryz.prog.liftsFinal)) = true := by kernel_rfl
theorem jf27RowFO : ((Tryz.prog.make == some Rows.fnFindCachedOldRow.make)) = true := by kernel_rfl
theorem jf29RowFO : ((Rows.fnFindCachedOldRow.pinned == Rows.fnFindCachedOldRow.pinnedBy)) = true := by kernel_rfl
theorem jf30RowFO : ((Rows.fnFindCachedOldRow.veiled == (Tryz.f6.params.toList ++ Rows.fnFindCachedOldSpec.plain.varTypes Tryz.prog ++ Tryz.f6.resultTypes.toList).any (Tryz.prog.veiledRec ·))) = true := by kernel_rfl
theorem jf31RowFO : (Rows.fnFindCachedOldRow.veiledFits Tryz.prog Tryz.f6.params.toList (Tryz.f6.params.toList ++ Rows.fnFindCachedOldSpec.plain.varTypes Tryz.prog ++ Tryz.f6.resultTypes.toList)) = true := by kernel_rfl
end Go.Proofs.YtdoidiipacdbpaaGreatDoor
