/-
  DERIVED. GIVEN WITH THE SEED: THE CARDS: each row of YtmenakmafojpaaaGreatDoorRows.lean that lists a variable, with what it lists TIED to the program's text (the seventh form; the later family's looks); each row that meets fmt, with fmt's text TOLD by the authors' own Lean function (tested against real Go, not proved from fmt's source: count such statements apart). THE CARD IS WHAT COUNTS. Prove the row's statement (the work); the ties are given (YtmenakmafojpaaaGreatDoorTie.lean); close each card by the builder's one call (the guide's Derived/Test/ToyasCard.lean, 'card_holds'). Laid BY PROGRAM, IN A SANDBOX (cutbox-door.mjs). By AI agents, Wed Nov 11 2026. No macro, syntax, notation, axiom, sorry.
-/
import Derived.Test.YtmenakmafojpaaaGreatDoorRows
import GoSem.ClaimSeven
namespace Go.Proofs.YtmenakmafojpaaaGreatDoor
namespace Rows

/-- THE TIED CARD OF 'laws.FnStartOrder'. -/
def fnStartOrderCard : Claim7 := { stood := { row := fnStartOrderRow, standIns := [], harness := (true, "adc7410465d42fa48b15859aa5ed1c2e64f585636607ee6f9e830a21692e4e2e"), looks := false }, kinds := [], alts := [], laidByText := true, laidKinds := [.data, .pinned], laidTests := true, laidLooks := .later }
def FnStartOrderCardSaid : Prop := Claim7.holds Tryz.pinned (.plain (OpenSpec.ofChange fnStartOrderSpec)) fnStartOrderCard

/-- THE TIED CARD OF 'laws.FnAttrsOf'. -/
def fnAttrsOfCard : Claim7 := { stood := { row := fnAttrsOfRow, standIns := [], harness := (true, "adc7410465d42fa48b15859aa5ed1c2e64f585636607ee6f9e830a21692e4e2e"), looks := false }, kinds := [], alts := [], laidByText := true, laidKinds := [.data, .pinned], laidTests := true, laidLooks := .later }
def FnAttrsOfCardSaid : Prop := Claim7.holds Tryz.pinned (.plain (OpenSpec.ofChange fnAttrsOfSpec)) fnAttrsOfCard

/-- THE TIED CARD OF 'laws.FnImportOne'. -/
def fnImportOneCard : Claim7 := { stood := { row := fnImportOneRow, standIns := [], harness := (true, "adc7410465d42fa48b15859aa5ed1c2e64f585636607ee6f9e830a21692e4e2e"), looks := false }, kinds := [], alts := [], laidByText := true, laidKinds := [.data, .pinned], laidTests := true, laidLooks := .later }
def FnImportOneCardSaid : Prop := Claim7.holds Tryz.pinned (.plain (OpenSpec.ofChange fnImportOneSpec)) fnImportOneCard

/-- THE TIED CARD OF 'laws.FnImportOneMissing'. -/
def fnImportOneMissingCard : Claim7 := { stood := { row := fnImportOneMissingRow, standIns := [], harness := (true, "adc7410465d42fa48b15859aa5ed1c2e64f585636607ee6f9e830a21692e4e2e"), looks := false }, kinds := [], alts := [], laidByText := true, laidKinds := [.data, .pinned], laidTests := true, laidLooks := .later }
def FnImportOneMissingCardSaid : Prop := Claim7.holds Tryz.pinned (.plain (OpenSpec.ofChange fnImportOneMissingSpec)) fnImportOneMissingCard

/-- THE TIED CARD OF 'laws.FnFirstFailure'. -/
def fnFirstFailureCard : Claim7 := { stood := { row := fnFirstFailureRow, standIns := [], harness := (true, "adc7410465d42fa48b15859aa5ed1c2e64f585636607ee6f9e830a21692e4e2e"), looks := false }, kinds := [], alts := [], laidByText := true, laidKinds := [.data, .pinned], laidTests := true, laidLooks := .later }
def FnFirstFailureCardSaid : Prop := Claim7.holds Tryz.pinned (.plain (OpenSpec.ofChange fnFirstFailureSpec)) fnFirstFailureCard

/-- THE TIED CARD OF 'laws.FnPartialSeen'. -/
def fnPartialSeenCard : Claim7 := { stood := { row := fnPartialSeenRow, standIns := [], harness := (true, "adc7410465d42fa48b15859aa5ed1c2e64f585636607ee6f9e830a21692e4e2e"), looks := false }, kinds := [], alts := [], laidByText := true, laidKinds := [.data, .pinned], laidTests := true, laidLooks := .later }
def FnPartialSeenCardSaid : Prop := Claim7.holds Tryz.pinned (.plain (OpenSpec.ofChange fnPartialSeenSpec)) fnPartialSeenCard

/-- THE TIED CARD OF 'laws.FnReachOfRun'. -/
def fnReachOfRunCard : Claim7 := { stood := { row := fnReachOfRunRow, standIns := [], harness := (true, "adc7410465d42fa48b15859aa5ed1c2e64f585636607ee6f9e830a21692e4e2e"), looks := false }, kinds := [], alts := [], laidByText := true, laidKinds := [.data, .pinned], laidTests := true, laidLooks := .later }
def FnReachOfRunCardSaid : Prop := Claim7.holds Tryz.pinned (.plain (OpenSpec.ofChange fnReachOfRunSpec)) fnReachOfRunCard

/-- THE TIED CARD OF 'laws.FnIsSimple'. -/
def fnIsSimpleCard : Claim7 := { stood := { row := fnIsSimpleRow, standIns := [], harness := (true, "adc7410465d42fa48b15859aa5ed1c2e64f585636607ee6f9e830a21692e4e2e"), looks := false }, kinds := [], alts := [], laidByText := true, laidKinds := [.data, .pinned], laidTests := true, laidLooks := .later }
def FnIsSimpleCardSaid : Prop := Claim7.holds Tryz.pinned (.plain (OpenSpec.ofChange fnIsSimpleSpec)) fnIsSimpleCard

/-- THE SECOND FORM's CARD OF 'laws.FnStartOrder'. -/
def fnStartOrderUptoCard : Claim7 := { stood := { row := fnStartOrderUptoRow, standIns := [], harness := (true, "adc7410465d42fa48b15859aa5ed1c2e64f585636607ee6f9e830a21692e4e2e"), looks := false }, kinds := [], alts := [], laidByText := true, laidKinds := [.data, .pinned], laidTests := true, laidLooks := .later }
def FnStartOrderUptoCardSaid : Prop := Claim7.holds Tryz.pinned (.plain (OpenSpec.upto fnStartOrderSpec)) fnStartOrderUptoCard

/-- THE SECOND FORM's CARD OF 'laws.FnAttrsOf'. -/
def fnAttrsOfUptoCard : Claim7 := { stood := { row := fnAttrsOfUptoRow, standIns := [], harness := (true, "adc7410465d42fa48b15859aa5ed1c2e64f585636607ee6f9e830a21692e4e2e"), looks := false }, kinds := [], alts := [], laidByText := true, laidKinds := [.data, .pinned], laidTests := true, laidLooks := .later }
def FnAttrsOfUptoCardSaid : Prop := Claim7.holds Tryz.pinned (.plain (OpenSpec.upto fnAttrsOfSpec)) fnAttrsOfUptoCard

/-- THE SECOND FORM's CARD OF 'laws.FnImportOne'. -/
def fnImportOneUptoCard : Claim7 := { stood := { row := fnImportOneUptoRow, standIns := [], harness := (true, "adc7410465d42fa48b15859aa5ed1c2e64f585636607ee6f9e830a21692e4e2e"), looks := false }, kinds := [], alts := [], laidByText := true, laidKinds := [.data, .pinned], laidTests := true, laidLooks := .later }
def FnImportOneUptoCardSaid : Prop := Claim7.holds Tryz.pinned (.plain (OpenSpec.upto fnImportOneSpec)) fnImportOneUptoCard

/-- THE SECOND FORM's CARD OF 'laws.FnImportOneMissing'. -/
def fnImportOneMissingUptoCard : Claim7 := { stood := { row := fnImportOneMissingUptoRow, standIns := [], harness := (true, "adc7410465d42fa48b15859aa5ed1c2e64f585636607ee6f9e830a21692e4e2e"), looks := false }, kinds := [], alts := [], laidByText := true, laidKinds := [.data, .pinned], laidTests := true, laidLooks := .later }
def FnImportOneMissingUptoCardSaid : Prop := Claim7.holds Tryz.pinned (.plain (OpenSpec.upto fnImportOneMissingSpec)) fnImportOneMissingUptoCard

/-- THE SECOND FORM's CARD OF 'laws.FnFirstFailure'. -/
def fnFirstFailureUptoCard : Claim7 := { stood := { row := fnFirstFailureUptoRow, standIns := [], harness := (true, "adc7410465d42fa48b15859aa5ed1c2e64f585636607ee6f9e830a21692e4e2e"), looks := false }, kinds := [], alts := [], laidByText := true, laidKinds := [.data, .pinned], laidTests := true, laidLooks := .later }
def FnFirstFailureUptoCardSaid : Prop := Claim7.holds Tryz.pinned (.plain (OpenSpec.upto fnFirstFailureSpec)) fnFirstFailureUptoCard

/-- THE SECOND FORM's CARD OF 'laws.FnPartialSeen'. -/
def fnPartialSeenUptoCard : Claim7 := { stood := { row := fnPartialSeenUptoRow, standIns := [], harness := (true, "adc7410465d42fa48b15859aa5ed1c2e64f585636607ee6f9e830a21692e4e2e"), looks := false }, kinds := [], alts := [], laidByText := true, laidKinds := [.data, .pinned], laidTests := true, laidLooks := .later }
def FnPartialSeenUptoCardSaid : Prop := Claim7.holds Tryz.pinned (.plain (OpenSpec.upto fnPartialSeenSpec)) fnPartialSeenUptoCard

/-- THE SECOND FORM's CARD OF 'laws.FnReachOfRun'. -/
def fnReachOfRunUptoCard : Claim7 := { stood := { row := fnReachOfRunUptoRow, standIns := [], harness := (true, "adc7410465d42fa48b15859aa5ed1c2e64f585636607ee6f9e830a21692e4e2e"), looks := false }, kinds := [], alts := [], laidByText := true, laidKinds := [.data, .pinned], laidTests := true, laidLooks := .later }
def FnReachOfRunUptoCardSaid : Prop := Claim7.holds Tryz.pinned (.plain (OpenSpec.upto fnReachOfRunSpec)) fnReachOfRunUptoCard

/-- THE SECOND FORM's CARD OF 'laws.FnIsSimple'. -/
def fnIsSimpleUptoCard : Claim7 := { stood := { row := fnIsSimpleUptoRow, standIns := [], harness := (true, "adc7410465d42fa48b15859aa5ed1c2e64f585636607ee6f9e830a21692e4e2e"), looks := false }, kinds := [], alts := [], laidByText := true, laidKinds := [.data, .pinned], laidTests := true, laidLooks := .later }
def FnIsSimpleUptoCardSaid : Prop := Claim7.holds Tryz.pinned (.plain (OpenSpec.upto fnIsSimpleSpec)) fnIsSimpleUptoCard
end Rows
end Go.Proofs.YtmenakmafojpaaaGreatDoor
