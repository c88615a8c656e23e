/-
  DERIVED. GIVEN WITH THE SEED: THE CARDS: each row of YtoomehfflopakaaGreatDoorRows.lean that lists a variable, with what it lists TIED to the program's text (the seventh form; the later family's looks); each row that meets fmt, with fmt's text TOLD by the authors' own Lean function (tested against real Go, not proved from fmt's source: count such statements apart). THE CARD IS WHAT COUNTS. Prove the row's statement (the work); the ties are given (YtoomehfflopakaaGreatDoorTie.lean); close each card by the builder's one call (the guide's Derived/Test/ToyasCard.lean, 'card_holds'). Laid BY PROGRAM, IN A SANDBOX (cutbox-door.mjs). By AI agents, Wed Nov 11 2026. No macro, syntax, notation, axiom, sorry.
-/
import Derived.Test.YtoomehfflopakaaGreatDoorRows
import GoSem.ClaimSeven
namespace Go.Proofs.YtoomehfflopakaaGreatDoor
namespace Rows

/-- THE TIED CARD OF 'laws.FnExactFillsOf'. -/
def fnExactFillsOfCard : Claim7 := { stood := { row := fnExactFillsOfRow, standIns := [], harness := (true, "2ec03bb2e0931e9b423c365afe04497c5227366a95f656d93ed467659a11a828"), looks := false }, kinds := [], alts := [], laidByText := true, laidKinds := [.data, .pinned], laidTests := true, laidLooks := .later }
def FnExactFillsOfCardSaid : Prop := Claim7.holds Tryz.pinned (.plain (OpenSpec.ofChange fnExactFillsOfSpec)) fnExactFillsOfCard

/-- THE TIED CARD OF 'laws.FnExactRunWarm'. -/
def fnExactRunWarmCard : Claim7 := { stood := { row := fnExactRunWarmRow, standIns := [], harness := (true, "2ec03bb2e0931e9b423c365afe04497c5227366a95f656d93ed467659a11a828"), looks := false }, kinds := [], alts := [], laidByText := true, laidKinds := [.data, .pinned], laidTests := true, laidLooks := .later }
def FnExactRunWarmCardSaid : Prop := Claim7.holds Tryz.pinned (.plain (OpenSpec.ofChange fnExactRunWarmSpec)) fnExactRunWarmCard

/-- THE TIED CARD OF 'laws.FnFillsOf'. -/
def fnFillsOfCard : Claim7 := { stood := { row := fnFillsOfRow, standIns := [], harness := (true, "2ec03bb2e0931e9b423c365afe04497c5227366a95f656d93ed467659a11a828"), looks := false }, kinds := [], alts := [], laidByText := true, laidKinds := [.data, .pinned], laidTests := true, laidLooks := .later }
def FnFillsOfCardSaid : Prop := Claim7.holds Tryz.pinned (.plain (OpenSpec.ofChange fnFillsOfSpec)) fnFillsOfCard

/-- THE TIED CARD OF 'laws.FnRunWarm'. -/
def fnRunWarmCard : Claim7 := { stood := { row := fnRunWarmRow, standIns := [], harness := (true, "2ec03bb2e0931e9b423c365afe04497c5227366a95f656d93ed467659a11a828"), looks := false }, kinds := [], alts := [], laidByText := true, laidKinds := [.data, .pinned], laidTests := true, laidLooks := .later }
def FnRunWarmCardSaid : Prop := Claim7.holds Tryz.pinned (.plain (OpenSpec.ofChange fnRunWarmSpec)) fnRunWarmCard

/-- THE TIED CARD OF 'laws.FnRunWarmAdd'. -/
def fnRunWarmAddCard : Claim7 := { stood := { row := fnRunWarmAddRow, standIns := [], harness := (true, "2ec03bb2e0931e9b423c365afe04497c5227366a95f656d93ed467659a11a828"), looks := false }, kinds := [], alts := [], laidByText := true, laidKinds := [.data, .pinned], laidTests := true, laidLooks := .later }
def FnRunWarmAddCardSaid : Prop := Claim7.holds Tryz.pinned (.plain (OpenSpec.ofChange fnRunWarmAddSpec)) fnRunWarmAddCard

/-- THE TIED CARD OF 'laws.FnRunWarmHash'. -/
def fnRunWarmHashCard : Claim7 := { stood := { row := fnRunWarmHashRow, standIns := [], harness := (true, "2ec03bb2e0931e9b423c365afe04497c5227366a95f656d93ed467659a11a828"), looks := false }, kinds := [], alts := [], laidByText := true, laidKinds := [.data, .pinned], laidTests := true, laidLooks := .later }
def FnRunWarmHashCardSaid : Prop := Claim7.holds Tryz.pinned (.plain (OpenSpec.ofChange fnRunWarmHashSpec)) fnRunWarmHashCard

/-- THE SECOND FORM's CARD OF 'laws.FnExactFillsOf'. -/
def fnExactFillsOfUptoCard : Claim7 := { stood := { row := fnExactFillsOfUptoRow, standIns := [], harness := (true, "2ec03bb2e0931e9b423c365afe04497c5227366a95f656d93ed467659a11a828"), looks := false }, kinds := [], alts := [], laidByText := true, laidKinds := [.data, .pinned], laidTests := true, laidLooks := .later }
def FnExactFillsOfUptoCardSaid : Prop := Claim7.holds Tryz.pinned (.plain (OpenSpec.upto fnExactFillsOfSpec)) fnExactFillsOfUptoCard

/-- THE SECOND FORM's CARD OF 'laws.FnExactRunWarm'. -/
def fnExactRunWarmUptoCard : Claim7 := { stood := { row := fnExactRunWarmUptoRow, standIns := [], harness := (true, "2ec03bb2e0931e9b423c365afe04497c5227366a95f656d93ed467659a11a828"), looks := false }, kinds := [], alts := [], laidByText := true, laidKinds := [.data, .pinned], laidTests := true, laidLooks := .later }
def FnExactRunWarmUptoCardSaid : Prop := Claim7.holds Tryz.pinned (.plain (OpenSpec.upto fnExactRunWarmSpec)) fnExactRunWarmUptoCard

/-- THE SECOND FORM's CARD OF 'laws.FnFillsOf'. -/
def fnFillsOfUptoCard : Claim7 := { stood := { row := fnFillsOfUptoRow, standIns := [], harness := (true, "2ec03bb2e0931e9b423c365afe04497c5227366a95f656d93ed467659a11a828"), looks := false }, kinds := [], alts := [], laidByText := true, laidKinds := [.data, .pinned], laidTests := true, laidLooks := .later }
def FnFillsOfUptoCardSaid : Prop := Claim7.holds Tryz.pinned (.plain (OpenSpec.upto fnFillsOfSpec)) fnFillsOfUptoCard

/-- THE SECOND FORM's CARD OF 'laws.FnRunWarm'. -/
def fnRunWarmUptoCard : Claim7 := { stood := { row := fnRunWarmUptoRow, standIns := [], harness := (true, "2ec03bb2e0931e9b423c365afe04497c5227366a95f656d93ed467659a11a828"), looks := false }, kinds := [], alts := [], laidByText := true, laidKinds := [.data, .pinned], laidTests := true, laidLooks := .later }
def FnRunWarmUptoCardSaid : Prop := Claim7.holds Tryz.pinned (.plain (OpenSpec.upto fnRunWarmSpec)) fnRunWarmUptoCard

/-- THE SECOND FORM's CARD OF 'laws.FnRunWarmAdd'. -/
def fnRunWarmAddUptoCard : Claim7 := { stood := { row := fnRunWarmAddUptoRow, standIns := [], harness := (true, "2ec03bb2e0931e9b423c365afe04497c5227366a95f656d93ed467659a11a828"), looks := false }, kinds := [], alts := [], laidByText := true, laidKinds := [.data, .pinned], laidTests := true, laidLooks := .later }
def FnRunWarmAddUptoCardSaid : Prop := Claim7.holds Tryz.pinned (.plain (OpenSpec.upto fnRunWarmAddSpec)) fnRunWarmAddUptoCard

/-- THE SECOND FORM's CARD OF 'laws.FnRunWarmHash'. -/
def fnRunWarmHashUptoCard : Claim7 := { stood := { row := fnRunWarmHashUptoRow, standIns := [], harness := (true, "2ec03bb2e0931e9b423c365afe04497c5227366a95f656d93ed467659a11a828"), looks := false }, kinds := [], alts := [], laidByText := true, laidKinds := [.data, .pinned], laidTests := true, laidLooks := .later }
def FnRunWarmHashUptoCardSaid : Prop := Claim7.holds Tryz.pinned (.plain (OpenSpec.upto fnRunWarmHashSpec)) fnRunWarmHashUptoCard
end Rows
end Go.Proofs.YtoomehfflopakaaGreatDoor
