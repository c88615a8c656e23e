/-
  DERIVED. GIVEN WITH THE SEED: THE CARDS: each row of YtdoidiipacdbpaaGreatDoorRows.lean that lists a variable, with what it lists TIED to the program's text (the seventh form; the later family's looks); each row that meets fmt, with fmt's text TOLD by the authors' own Lean function (tested against real Go, not proved from fmt's source: count such statements apart). THE CARD IS WHAT COUNTS. Prove the row's statement (the work); the ties are given (YtdoidiipacdbpaaGreatDoorTie.lean); close each card by the builder's one call (the guide's Derived/Test/ToyasCard.lean, 'card_holds'). Laid BY PROGRAM, IN A SANDBOX (cutbox-door.mjs). By AI agents, Wed Nov 11 2026. No macro, syntax, notation, axiom, sorry.
-/
import Derived.Test.YtdoidiipacdbpaaGreatDoorRows
import GoSem.ClaimSeven
namespace Go.Proofs.YtdoidiipacdbpaaGreatDoor
namespace Rows

/-- THE TIED CARD OF 'laws.FnExactFindCached'. -/
def fnExactFindCachedCard : Claim7 := { stood := { row := fnExactFindCachedRow, standIns := [], harness := (true, "d39a37ef857ee5445d6dffcdb8ae23fa2d484e2491b35467d31b01854d04fcd6"), looks := false }, kinds := [], alts := [], laidByText := true, laidKinds := [.data, .pinned], laidTests := true, laidLooks := .later }
def FnExactFindCachedCardSaid : Prop := Claim7.holds Tryz.pinned (.plain (OpenSpec.ofChange fnExactFindCachedSpec)) fnExactFindCachedCard

/-- THE TIED CARD OF 'laws.FnFindCached'. -/
def fnFindCachedCard : Claim7 := { stood := { row := fnFindCachedRow, standIns := [], harness := (true, "d39a37ef857ee5445d6dffcdb8ae23fa2d484e2491b35467d31b01854d04fcd6"), looks := false }, kinds := [], alts := [], laidByText := true, laidKinds := [.data, .pinned], laidTests := true, laidLooks := .later }
def FnFindCachedCardSaid : Prop := Claim7.holds Tryz.pinned (.plain (OpenSpec.ofChange fnFindCachedSpec)) fnFindCachedCard

/-- THE TIED CARD OF 'laws.FnFindCachedTwice'. -/
def fnFindCachedTwiceCard : Claim7 := { stood := { row := fnFindCachedTwiceRow, standIns := [], harness := (true, "d39a37ef857ee5445d6dffcdb8ae23fa2d484e2491b35467d31b01854d04fcd6"), looks := false }, kinds := [], alts := [], laidByText := true, laidKinds := [.data, .pinned], laidTests := true, laidLooks := .later }
def FnFindCachedTwiceCardSaid : Prop := Claim7.holds Tryz.pinned (.plain (OpenSpec.ofChange fnFindCachedTwiceSpec)) fnFindCachedTwiceCard

/-- THE TIED CARD OF 'laws.FnFindCachedOld'. -/
def fnFindCachedOldCard : Claim7 := { stood := { row := fnFindCachedOldRow, standIns := [], harness := (true, "d39a37ef857ee5445d6dffcdb8ae23fa2d484e2491b35467d31b01854d04fcd6"), looks := false }, kinds := [], alts := [], laidByText := true, laidKinds := [.data, .pinned], laidTests := true, laidLooks := .later }
def FnFindCachedOldCardSaid : Prop := Claim7.holds Tryz.pinned (.plain (OpenSpec.ofChange fnFindCachedOldSpec)) fnFindCachedOldCard

/-- THE TIED CARD OF 'laws.FnStaleDirs'. -/
def fnStaleDirsCard : Claim7 := { stood := { row := fnStaleDirsRow, standIns := [], harness := (true, "d39a37ef857ee5445d6dffcdb8ae23fa2d484e2491b35467d31b01854d04fcd6"), looks := false }, kinds := [], alts := [], laidByText := true, laidKinds := [.data, .pinned], laidTests := true, laidLooks := .later }
def FnStaleDirsCardSaid : Prop := Claim7.holds Tryz.pinned (.plain (OpenSpec.ofChange fnStaleDirsSpec)) fnStaleDirsCard

/-- THE SECOND FORM's CARD OF 'laws.FnExactFindCached'. -/
def fnExactFindCachedUptoCard : Claim7 := { stood := { row := fnExactFindCachedUptoRow, standIns := [], harness := (true, "d39a37ef857ee5445d6dffcdb8ae23fa2d484e2491b35467d31b01854d04fcd6"), looks := false }, kinds := [], alts := [], laidByText := true, laidKinds := [.data, .pinned], laidTests := true, laidLooks := .later }
def FnExactFindCachedUptoCardSaid : Prop := Claim7.holds Tryz.pinned (.plain (OpenSpec.upto fnExactFindCachedSpec)) fnExactFindCachedUptoCard

/-- THE SECOND FORM's CARD OF 'laws.FnFindCached'. -/
def fnFindCachedUptoCard : Claim7 := { stood := { row := fnFindCachedUptoRow, standIns := [], harness := (true, "d39a37ef857ee5445d6dffcdb8ae23fa2d484e2491b35467d31b01854d04fcd6"), looks := false }, kinds := [], alts := [], laidByText := true, laidKinds := [.data, .pinned], laidTests := true, laidLooks := .later }
def FnFindCachedUptoCardSaid : Prop := Claim7.holds Tryz.pinned (.plain (OpenSpec.upto fnFindCachedSpec)) fnFindCachedUptoCard

/-- THE SECOND FORM's CARD OF 'laws.FnFindCachedTwice'. -/
def fnFindCachedTwiceUptoCard : Claim7 := { stood := { row := fnFindCachedTwiceUptoRow, standIns := [], harness := (true, "d39a37ef857ee5445d6dffcdb8ae23fa2d484e2491b35467d31b01854d04fcd6"), looks := false }, kinds := [], alts := [], laidByText := true, laidKinds := [.data, .pinned], laidTests := true, laidLooks := .later }
def FnFindCachedTwiceUptoCardSaid : Prop := Claim7.holds Tryz.pinned (.plain (OpenSpec.upto fnFindCachedTwiceSpec)) fnFindCachedTwiceUptoCard

/-- THE SECOND FORM's CARD OF 'laws.FnFindCachedOld'. -/
def fnFindCachedOldUptoCard : Claim7 := { stood := { row := fnFindCachedOldUptoRow, standIns := [], harness := (true, "d39a37ef857ee5445d6dffcdb8ae23fa2d484e2491b35467d31b01854d04fcd6"), looks := false }, kinds := [], alts := [], laidByText := true, laidKinds := [.data, .pinned], laidTests := true, laidLooks := .later }
def FnFindCachedOldUptoCardSaid : Prop := Claim7.holds Tryz.pinned (.plain (OpenSpec.upto fnFindCachedOldSpec)) fnFindCachedOldUptoCard

/-- THE SECOND FORM's CARD OF 'laws.FnStaleDirs'. -/
def fnStaleDirsUptoCard : Claim7 := { stood := { row := fnStaleDirsUptoRow, standIns := [], harness := (true, "d39a37ef857ee5445d6dffcdb8ae23fa2d484e2491b35467d31b01854d04fcd6"), looks := false }, kinds := [], alts := [], laidByText := true, laidKinds := [.data, .pinned], laidTests := true, laidLooks := .later }
def FnStaleDirsUptoCardSaid : Prop := Claim7.holds Tryz.pinned (.plain (OpenSpec.upto fnStaleDirsSpec)) fnStaleDirsUptoCard
end Rows
end Go.Proofs.YtdoidiipacdbpaaGreatDoor
