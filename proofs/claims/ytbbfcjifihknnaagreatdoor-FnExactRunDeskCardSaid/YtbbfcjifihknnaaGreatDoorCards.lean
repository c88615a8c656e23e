/-
  DERIVED. GIVEN WITH THE SEED: THE CARDS: each row of YtbbfcjifihknnaaGreatDoorRows.lean that lists a variable, with what it lists TIED to the program's text (the seventh form; the later family's looks); each row that meets fmt, with fmt's text TOLD by the authors' own Lean function (tested against real Go, not proved from fmt's source: count such statements apart). THE CARD IS WHAT COUNTS. Prove the row's statement (the work); the ties are given (YtbbfcjifihknnaaGreatDoorTie.lean); close each card by the builder's one call (the guide's Derived/Test/ToyasCard.lean, 'card_holds'). Laid BY PROGRAM, IN A SANDBOX (cutbox-door.mjs). By AI agents, Wed Nov 11 2026. No macro, syntax, notation, axiom, sorry.
-/
import Derived.Test.YtbbfcjifihknnaaGreatDoorRows
import GoSem.ClaimSeven
namespace Go.Proofs.YtbbfcjifihknnaaGreatDoor
namespace Rows

/-- THE TIED CARD OF 'laws.FnExactRunCommands'. -/
def fnExactRunCommandsCard : Claim7 := { stood := { row := fnExactRunCommandsRow, standIns := [], harness := (true, "37d503373db38bad853776546aff64023054700c58866ca72f372d1019198a86"), looks := true }, kinds := [], alts := [], laidByText := true, laidKinds := [.data, .pinned], laidTests := true, laidLooks := .later }
def FnExactRunCommandsCardSaid : Prop := Claim7.holds Tryz.pinned (.plain (OpenSpec.ofChange fnExactRunCommandsSpec)) fnExactRunCommandsCard

/-- THE TIED CARD OF 'laws.FnExactRunWarm'. -/
def fnExactRunWarmCard : Claim7 := { stood := { row := fnExactRunWarmRow, standIns := [], harness := (true, "37d503373db38bad853776546aff64023054700c58866ca72f372d1019198a86"), looks := true }, kinds := [], alts := [], laidByText := true, laidKinds := [.data, .pinned], laidTests := true, laidLooks := .later }
def FnExactRunWarmCardSaid : Prop := Claim7.holds Tryz.pinned (.plain (OpenSpec.ofChange fnExactRunWarmSpec)) fnExactRunWarmCard

/-- THE TIED CARD OF 'laws.FnExactFillsOf'. -/
def fnExactFillsOfCard : Claim7 := { stood := { row := fnExactFillsOfRow, standIns := [], harness := (true, "37d503373db38bad853776546aff64023054700c58866ca72f372d1019198a86"), looks := true }, kinds := [], alts := [], laidByText := true, laidKinds := [.data, .pinned], laidTests := true, laidLooks := .later }
def FnExactFillsOfCardSaid : Prop := Claim7.holds Tryz.pinned (.plain (OpenSpec.ofChange fnExactFillsOfSpec)) fnExactFillsOfCard

/-- THE TIED CARD OF 'laws.FnExactRunDesk'. -/
def fnExactRunDeskCard : Claim7 := { stood := { row := fnExactRunDeskRow, standIns := [], harness := (true, "37d503373db38bad853776546aff64023054700c58866ca72f372d1019198a86"), looks := true }, kinds := [], alts := [], laidByText := true, laidKinds := [.data, .data, .data, .data, .sentinel, .sentinel, .data, .data, .pinned], laidTests := true, laidLooks := .later }
def FnExactRunDeskCardSaid : Prop := Claim7.holds Tryz.pinned (.plain (OpenSpec.ofChange fnExactRunDeskSpec)) fnExactRunDeskCard

/-- THE SECOND FORM's CARD OF 'laws.FnExactRunCommands'. -/
def fnExactRunCommandsUptoCard : Claim7 := { stood := { row := fnExactRunCommandsUptoRow, standIns := [], harness := (true, "37d503373db38bad853776546aff64023054700c58866ca72f372d1019198a86"), looks := true }, kinds := [], alts := [], laidByText := true, laidKinds := [.data, .pinned], laidTests := true, laidLooks := .later }
def FnExactRunCommandsUptoCardSaid : Prop := Claim7.holds Tryz.pinned (.plain (OpenSpec.upto fnExactRunCommandsSpec)) fnExactRunCommandsUptoCard

/-- THE SECOND FORM's CARD OF 'laws.FnExactRunWarm'. -/
def fnExactRunWarmUptoCard : Claim7 := { stood := { row := fnExactRunWarmUptoRow, standIns := [], harness := (true, "37d503373db38bad853776546aff64023054700c58866ca72f372d1019198a86"), looks := true }, kinds := [], alts := [], laidByText := true, laidKinds := [.data, .pinned], laidTests := true, laidLooks := .later }
def FnExactRunWarmUptoCardSaid : Prop := Claim7.holds Tryz.pinned (.plain (OpenSpec.upto fnExactRunWarmSpec)) fnExactRunWarmUptoCard

/-- THE SECOND FORM's CARD OF 'laws.FnExactFillsOf'. -/
def fnExactFillsOfUptoCard : Claim7 := { stood := { row := fnExactFillsOfUptoRow, standIns := [], harness := (true, "37d503373db38bad853776546aff64023054700c58866ca72f372d1019198a86"), looks := true }, kinds := [], alts := [], laidByText := true, laidKinds := [.data, .pinned], laidTests := true, laidLooks := .later }
def FnExactFillsOfUptoCardSaid : Prop := Claim7.holds Tryz.pinned (.plain (OpenSpec.upto fnExactFillsOfSpec)) fnExactFillsOfUptoCard

/-- THE SECOND FORM's CARD OF 'laws.FnExactRunDesk'. -/
def fnExactRunDeskUptoCard : Claim7 := { stood := { row := fnExactRunDeskUptoRow, standIns := [], harness := (true, "37d503373db38bad853776546aff64023054700c58866ca72f372d1019198a86"), looks := true }, kinds := [], alts := [], laidByText := true, laidKinds := [.data, .data, .data, .data, .sentinel, .sentinel, .data, .data, .pinned], laidTests := true, laidLooks := .later }
def FnExactRunDeskUptoCardSaid : Prop := Claim7.holds Tryz.pinned (.plain (OpenSpec.upto fnExactRunDeskSpec)) fnExactRunDeskUptoCard
end Rows
end Go.Proofs.YtbbfcjifihknnaaGreatDoor
