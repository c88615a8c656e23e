/-
  DERIVED. GIVEN WITH THE SEED: THE CARDS: each row of YtiiiokblnnlapaaGreatDoorRows.lean that lists a variable, with what it lists TIED to the program's text (the seventh form; the later family's looks); each row that meets fmt, with fmt's text TOLD by the authors' own Lean function (tested against real Go, not proved from fmt's source: count such statements apart). THE CARD IS WHAT COUNTS. Prove the row's statement (the work); the ties are given (YtiiiokblnnlapaaGreatDoorTie.lean); close each card by the builder's one call (the guide's Derived/Test/ToyasCard.lean, 'card_holds'). Laid BY PROGRAM, IN A SANDBOX (cutbox-door.mjs). By AI agents, Wed Nov 11 2026. No macro, syntax, notation, axiom, sorry.
-/
import Derived.Test.YtiiiokblnnlapaaGreatDoorRows
import GoSem.ClaimSeven
namespace Go.Proofs.YtiiiokblnnlapaaGreatDoor
namespace Rows

/-- THE TIED CARD OF 'laws.FnExactFirstFailure'. -/
def fnExactFirstFailureCard : Claim7 := { stood := { row := fnExactFirstFailureRow, standIns := [], harness := (true, "4e9900ed4bdef7d633a70bd1ff80baf9df292c2e2a39bc7104f554d1344b45a1"), looks := false }, kinds := [], alts := [], laidByText := true, laidKinds := [.data, .pinned], laidTests := true, laidLooks := .later }
def FnExactFirstFailureCardSaid : Prop := Claim7.holds Tryz.pinned (.plain (OpenSpec.ofChange fnExactFirstFailureSpec)) fnExactFirstFailureCard

/-- THE TIED CARD OF 'laws.FnDoneOrder'. -/
def fnDoneOrderCard : Claim7 := { stood := { row := fnDoneOrderRow, standIns := [], harness := (true, "4e9900ed4bdef7d633a70bd1ff80baf9df292c2e2a39bc7104f554d1344b45a1"), looks := false }, kinds := [], alts := [], laidByText := true, laidKinds := [.data, .pinned], laidTests := true, laidLooks := .later }
def FnDoneOrderCardSaid : Prop := Claim7.holds Tryz.pinned (.plain (OpenSpec.ofChange fnDoneOrderSpec)) fnDoneOrderCard

/-- THE TIED CARD OF 'laws.FnRingsOf'. -/
def fnRingsOfCard : Claim7 := { stood := { row := fnRingsOfRow, standIns := [], harness := (true, "4e9900ed4bdef7d633a70bd1ff80baf9df292c2e2a39bc7104f554d1344b45a1"), looks := false }, kinds := [], alts := [], laidByText := true, laidKinds := [.data, .pinned], laidTests := true, laidLooks := .later }
def FnRingsOfCardSaid : Prop := Claim7.holds Tryz.pinned (.plain (OpenSpec.ofChange fnRingsOfSpec)) fnRingsOfCard

/-- THE TIED CARD OF 'laws.FnExactDoneOrder'. -/
def fnExactDoneOrderCard : Claim7 := { stood := { row := fnExactDoneOrderRow, standIns := [], harness := (true, "4e9900ed4bdef7d633a70bd1ff80baf9df292c2e2a39bc7104f554d1344b45a1"), looks := false }, kinds := [], alts := [], laidByText := true, laidKinds := [.data, .pinned], laidTests := true, laidLooks := .later }
def FnExactDoneOrderCardSaid : Prop := Claim7.holds Tryz.pinned (.plain (OpenSpec.ofChange fnExactDoneOrderSpec)) fnExactDoneOrderCard

/-- THE TIED CARD OF 'laws.FnExactStartOrder'. -/
def fnExactStartOrderCard : Claim7 := { stood := { row := fnExactStartOrderRow, standIns := [], harness := (true, "4e9900ed4bdef7d633a70bd1ff80baf9df292c2e2a39bc7104f554d1344b45a1"), looks := false }, kinds := [], alts := [], laidByText := true, laidKinds := [.data, .pinned], laidTests := true, laidLooks := .later }
def FnExactStartOrderCardSaid : Prop := Claim7.holds Tryz.pinned (.plain (OpenSpec.ofChange fnExactStartOrderSpec)) fnExactStartOrderCard

/-- THE TIED CARD OF 'laws.FnExactImportOne'. -/
def fnExactImportOneCard : Claim7 := { stood := { row := fnExactImportOneRow, standIns := [], harness := (true, "4e9900ed4bdef7d633a70bd1ff80baf9df292c2e2a39bc7104f554d1344b45a1"), looks := false }, kinds := [], alts := [], laidByText := true, laidKinds := [.data, .pinned], laidTests := true, laidLooks := .later }
def FnExactImportOneCardSaid : Prop := Claim7.holds Tryz.pinned (.plain (OpenSpec.ofChange fnExactImportOneSpec)) fnExactImportOneCard

/-- THE TIED CARD OF 'laws.FnExactPartialSeen'. -/
def fnExactPartialSeenCard : Claim7 := { stood := { row := fnExactPartialSeenRow, standIns := [], harness := (true, "4e9900ed4bdef7d633a70bd1ff80baf9df292c2e2a39bc7104f554d1344b45a1"), looks := false }, kinds := [], alts := [], laidByText := true, laidKinds := [.data, .pinned], laidTests := true, laidLooks := .later }
def FnExactPartialSeenCardSaid : Prop := Claim7.holds Tryz.pinned (.plain (OpenSpec.ofChange fnExactPartialSeenSpec)) fnExactPartialSeenCard

/-- THE TIED CARD OF 'laws.FnLayersOf'. -/
def fnLayersOfCard : Claim7 := { stood := { row := fnLayersOfRow, standIns := [], harness := (true, "4e9900ed4bdef7d633a70bd1ff80baf9df292c2e2a39bc7104f554d1344b45a1"), looks := false }, kinds := [], alts := [], laidByText := true, laidKinds := [.data, .pinned], laidTests := true, laidLooks := .later }
def FnLayersOfCardSaid : Prop := Claim7.holds Tryz.pinned (.plain (OpenSpec.ofChange fnLayersOfSpec)) fnLayersOfCard

/-- THE TIED CARD OF 'laws.FnExactAttrsOf'. -/
def fnExactAttrsOfCard : Claim7 := { stood := { row := fnExactAttrsOfRow, standIns := [], harness := (true, "4e9900ed4bdef7d633a70bd1ff80baf9df292c2e2a39bc7104f554d1344b45a1"), looks := false }, kinds := [], alts := [], laidByText := true, laidKinds := [.data, .pinned], laidTests := true, laidLooks := .later }
def FnExactAttrsOfCardSaid : Prop := Claim7.holds Tryz.pinned (.plain (OpenSpec.ofChange fnExactAttrsOfSpec)) fnExactAttrsOfCard

/-- THE TIED CARD OF 'laws.FnExactPlainOrder'. -/
def fnExactPlainOrderCard : Claim7 := { stood := { row := fnExactPlainOrderRow, standIns := [], harness := (true, "4e9900ed4bdef7d633a70bd1ff80baf9df292c2e2a39bc7104f554d1344b45a1"), looks := false }, kinds := [], alts := [], laidByText := true, laidKinds := [.data, .pinned], laidTests := true, laidLooks := .later }
def FnExactPlainOrderCardSaid : Prop := Claim7.holds Tryz.pinned (.plain (OpenSpec.ofChange fnExactPlainOrderSpec)) fnExactPlainOrderCard

/-- THE TIED CARD OF 'laws.FnExactLayersOf'. -/
def fnExactLayersOfCard : Claim7 := { stood := { row := fnExactLayersOfRow, standIns := [], harness := (true, "4e9900ed4bdef7d633a70bd1ff80baf9df292c2e2a39bc7104f554d1344b45a1"), looks := false }, kinds := [], alts := [], laidByText := true, laidKinds := [.data, .pinned], laidTests := true, laidLooks := .later }
def FnExactLayersOfCardSaid : Prop := Claim7.holds Tryz.pinned (.plain (OpenSpec.ofChange fnExactLayersOfSpec)) fnExactLayersOfCard

/-- THE TIED CARD OF 'laws.FnExactRunCommands'. -/
def fnExactRunCommandsCard : Claim7 := { stood := { row := fnExactRunCommandsRow, standIns := [], harness := (true, "4e9900ed4bdef7d633a70bd1ff80baf9df292c2e2a39bc7104f554d1344b45a1"), looks := false }, kinds := [], alts := [], laidByText := true, laidKinds := [.data, .pinned], laidTests := true, laidLooks := .later }
def FnExactRunCommandsCardSaid : Prop := Claim7.holds Tryz.pinned (.plain (OpenSpec.ofChange fnExactRunCommandsSpec)) fnExactRunCommandsCard

/-- THE SECOND FORM's CARD OF 'laws.FnExactFirstFailure'. -/
def fnExactFirstFailureUptoCard : Claim7 := { stood := { row := fnExactFirstFailureUptoRow, standIns := [], harness := (true, "4e9900ed4bdef7d633a70bd1ff80baf9df292c2e2a39bc7104f554d1344b45a1"), looks := false }, kinds := [], alts := [], laidByText := true, laidKinds := [.data, .pinned], laidTests := true, laidLooks := .later }
def FnExactFirstFailureUptoCardSaid : Prop := Claim7.holds Tryz.pinned (.plain (OpenSpec.upto fnExactFirstFailureSpec)) fnExactFirstFailureUptoCard

/-- THE SECOND FORM's CARD OF 'laws.FnDoneOrder'. -/
def fnDoneOrderUptoCard : Claim7 := { stood := { row := fnDoneOrderUptoRow, standIns := [], harness := (true, "4e9900ed4bdef7d633a70bd1ff80baf9df292c2e2a39bc7104f554d1344b45a1"), looks := false }, kinds := [], alts := [], laidByText := true, laidKinds := [.data, .pinned], laidTests := true, laidLooks := .later }
def FnDoneOrderUptoCardSaid : Prop := Claim7.holds Tryz.pinned (.plain (OpenSpec.upto fnDoneOrderSpec)) fnDoneOrderUptoCard

/-- THE SECOND FORM's CARD OF 'laws.FnRingsOf'. -/
def fnRingsOfUptoCard : Claim7 := { stood := { row := fnRingsOfUptoRow, standIns := [], harness := (true, "4e9900ed4bdef7d633a70bd1ff80baf9df292c2e2a39bc7104f554d1344b45a1"), looks := false }, kinds := [], alts := [], laidByText := true, laidKinds := [.data, .pinned], laidTests := true, laidLooks := .later }
def FnRingsOfUptoCardSaid : Prop := Claim7.holds Tryz.pinned (.plain (OpenSpec.upto fnRingsOfSpec)) fnRingsOfUptoCard

/-- THE SECOND FORM's CARD OF 'laws.FnExactDoneOrder'. -/
def fnExactDoneOrderUptoCard : Claim7 := { stood := { row := fnExactDoneOrderUptoRow, standIns := [], harness := (true, "4e9900ed4bdef7d633a70bd1ff80baf9df292c2e2a39bc7104f554d1344b45a1"), looks := false }, kinds := [], alts := [], laidByText := true, laidKinds := [.data, .pinned], laidTests := true, laidLooks := .later }
def FnExactDoneOrderUptoCardSaid : Prop := Claim7.holds Tryz.pinned (.plain (OpenSpec.upto fnExactDoneOrderSpec)) fnExactDoneOrderUptoCard

/-- THE SECOND FORM's CARD OF 'laws.FnExactStartOrder'. -/
def fnExactStartOrderUptoCard : Claim7 := { stood := { row := fnExactStartOrderUptoRow, standIns := [], harness := (true, "4e9900ed4bdef7d633a70bd1ff80baf9df292c2e2a39bc7104f554d1344b45a1"), looks := false }, kinds := [], alts := [], laidByText := true, laidKinds := [.data, .pinned], laidTests := true, laidLooks := .later }
def FnExactStartOrderUptoCardSaid : Prop := Claim7.holds Tryz.pinned (.plain (OpenSpec.upto fnExactStartOrderSpec)) fnExactStartOrderUptoCard

/-- THE SECOND FORM's CARD OF 'laws.FnExactImportOne'. -/
def fnExactImportOneUptoCard : Claim7 := { stood := { row := fnExactImportOneUptoRow, standIns := [], harness := (true, "4e9900ed4bdef7d633a70bd1ff80baf9df292c2e2a39bc7104f554d1344b45a1"), looks := false }, kinds := [], alts := [], laidByText := true, laidKinds := [.data, .pinned], laidTests := true, laidLooks := .later }
def FnExactImportOneUptoCardSaid : Prop := Claim7.holds Tryz.pinned (.plain (OpenSpec.upto fnExactImportOneSpec)) fnExactImportOneUptoCard

/-- THE SECOND FORM's CARD OF 'laws.FnExactPartialSeen'. -/
def fnExactPartialSeenUptoCard : Claim7 := { stood := { row := fnExactPartialSeenUptoRow, standIns := [], harness := (true, "4e9900ed4bdef7d633a70bd1ff80baf9df292c2e2a39bc7104f554d1344b45a1"), looks := false }, kinds := [], alts := [], laidByText := true, laidKinds := [.data, .pinned], laidTests := true, laidLooks := .later }
def FnExactPartialSeenUptoCardSaid : Prop := Claim7.holds Tryz.pinned (.plain (OpenSpec.upto fnExactPartialSeenSpec)) fnExactPartialSeenUptoCard

/-- THE SECOND FORM's CARD OF 'laws.FnLayersOf'. -/
def fnLayersOfUptoCard : Claim7 := { stood := { row := fnLayersOfUptoRow, standIns := [], harness := (true, "4e9900ed4bdef7d633a70bd1ff80baf9df292c2e2a39bc7104f554d1344b45a1"), looks := false }, kinds := [], alts := [], laidByText := true, laidKinds := [.data, .pinned], laidTests := true, laidLooks := .later }
def FnLayersOfUptoCardSaid : Prop := Claim7.holds Tryz.pinned (.plain (OpenSpec.upto fnLayersOfSpec)) fnLayersOfUptoCard

/-- THE SECOND FORM's CARD OF 'laws.FnExactAttrsOf'. -/
def fnExactAttrsOfUptoCard : Claim7 := { stood := { row := fnExactAttrsOfUptoRow, standIns := [], harness := (true, "4e9900ed4bdef7d633a70bd1ff80baf9df292c2e2a39bc7104f554d1344b45a1"), looks := false }, kinds := [], alts := [], laidByText := true, laidKinds := [.data, .pinned], laidTests := true, laidLooks := .later }
def FnExactAttrsOfUptoCardSaid : Prop := Claim7.holds Tryz.pinned (.plain (OpenSpec.upto fnExactAttrsOfSpec)) fnExactAttrsOfUptoCard

/-- THE SECOND FORM's CARD OF 'laws.FnExactPlainOrder'. -/
def fnExactPlainOrderUptoCard : Claim7 := { stood := { row := fnExactPlainOrderUptoRow, standIns := [], harness := (true, "4e9900ed4bdef7d633a70bd1ff80baf9df292c2e2a39bc7104f554d1344b45a1"), looks := false }, kinds := [], alts := [], laidByText := true, laidKinds := [.data, .pinned], laidTests := true, laidLooks := .later }
def FnExactPlainOrderUptoCardSaid : Prop := Claim7.holds Tryz.pinned (.plain (OpenSpec.upto fnExactPlainOrderSpec)) fnExactPlainOrderUptoCard

/-- THE SECOND FORM's CARD OF 'laws.FnExactLayersOf'. -/
def fnExactLayersOfUptoCard : Claim7 := { stood := { row := fnExactLayersOfUptoRow, standIns := [], harness := (true, "4e9900ed4bdef7d633a70bd1ff80baf9df292c2e2a39bc7104f554d1344b45a1"), looks := false }, kinds := [], alts := [], laidByText := true, laidKinds := [.data, .pinned], laidTests := true, laidLooks := .later }
def FnExactLayersOfUptoCardSaid : Prop := Claim7.holds Tryz.pinned (.plain (OpenSpec.upto fnExactLayersOfSpec)) fnExactLayersOfUptoCard

/-- THE SECOND FORM's CARD OF 'laws.FnExactRunCommands'. -/
def fnExactRunCommandsUptoCard : Claim7 := { stood := { row := fnExactRunCommandsUptoRow, standIns := [], harness := (true, "4e9900ed4bdef7d633a70bd1ff80baf9df292c2e2a39bc7104f554d1344b45a1"), looks := false }, kinds := [], alts := [], laidByText := true, laidKinds := [.data, .pinned], laidTests := true, laidLooks := .later }
def FnExactRunCommandsUptoCardSaid : Prop := Claim7.holds Tryz.pinned (.plain (OpenSpec.upto fnExactRunCommandsSpec)) fnExactRunCommandsUptoCard
end Rows
end Go.Proofs.YtiiiokblnnlapaaGreatDoor
