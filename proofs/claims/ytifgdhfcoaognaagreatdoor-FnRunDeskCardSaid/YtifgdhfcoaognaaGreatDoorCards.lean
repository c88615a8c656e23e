/-
  DERIVED. GIVEN WITH THE SEED: THE CARDS: each row of YtifgdhfcoaognaaGreatDoorRows.lean that lists a variable, with what it lists TIED to the program's text (the seventh form; the later family's looks); each row that meets fmt, with fmt's text TOLD by the authors' own Lean function (tested against real Go, not proved from fmt's source: count such statements apart). THE CARD IS WHAT COUNTS. Prove the row's statement (the work); the ties are given (YtifgdhfcoaognaaGreatDoorTie.lean); close each card by the builder's one call (the guide's Derived/Test/ToyasCard.lean, 'card_holds'). Laid BY PROGRAM, IN A SANDBOX (cutbox-door.mjs). By AI agents, Wed Nov 11 2026. No macro, syntax, notation, axiom, sorry.
-/
import Derived.Test.YtifgdhfcoaognaaGreatDoorRows
import GoSem.ClaimSeven
namespace Go.Proofs.YtifgdhfcoaognaaGreatDoor
namespace Rows

/-- THE TIED CARD OF 'laws.FnRunDesk'. -/
def fnRunDeskCard : Claim7 := { stood := { row := fnRunDeskRow, standIns := [], harness := (true, "b63d06eee457281631f676e7ef85794e8d1c529aa05ae4a475e3284c05fcdd79"), looks := true }, kinds := [], alts := [], laidByText := true, laidKinds := [.data, .data, .data, .data, .sentinel, .sentinel, .data, .data, .pinned], laidTests := true, laidLooks := .later }
def FnRunDeskCardSaid : Prop := Claim7.holds Tryz.pinned (.plain (OpenSpec.ofChange fnRunDeskSpec)) fnRunDeskCard

/-- THE SECOND FORM's CARD OF 'laws.FnRunDesk'. -/
def fnRunDeskUptoCard : Claim7 := { stood := { row := fnRunDeskUptoRow, standIns := [], harness := (true, "b63d06eee457281631f676e7ef85794e8d1c529aa05ae4a475e3284c05fcdd79"), looks := true }, kinds := [], alts := [], laidByText := true, laidKinds := [.data, .data, .data, .data, .sentinel, .sentinel, .data, .data, .pinned], laidTests := true, laidLooks := .later }
def FnRunDeskUptoCardSaid : Prop := Claim7.holds Tryz.pinned (.plain (OpenSpec.upto fnRunDeskSpec)) fnRunDeskUptoCard
end Rows
end Go.Proofs.YtifgdhfcoaognaaGreatDoor
