/-
  DERIVED. GIVEN WITH THE SEED: THE CARDS: each row of YtnlhpkbphdbknaaGreatDoorRows.lean that lists a variable, with what it lists TIED to the program's text (the seventh form; the later family's looks); each row that meets fmt, with fmt's text TOLD by the authors' own Lean function (tested against real Go, not proved from fmt's source: count such statements apart). THE CARD IS WHAT COUNTS. Prove the row's statement (the work); the ties are given (YtnlhpkbphdbknaaGreatDoorTie.lean); close each card by the builder's one call (the guide's Derived/Test/ToyasCard.lean, 'card_holds'). Laid BY PROGRAM, IN A SANDBOX (cutbox-door.mjs). By AI agents, Wed Nov 11 2026. No macro, syntax, notation, axiom, sorry.
-/
import Derived.Test.YtnlhpkbphdbknaaGreatDoorRows
import GoSem.ClaimSeven
namespace Go.Proofs.YtnlhpkbphdbknaaGreatDoor
namespace Rows

/-- THE TIED CARD OF 'laws.FnRunCommands'. -/
def fnRunCommandsCard : Claim7 := { stood := { row := fnRunCommandsRow, standIns := [], harness := (true, "0bf09a092c0d4304c3184371e16a08630da025a5ed993b172cc94d67496ace16"), looks := false }, kinds := [], alts := [], laidByText := true, laidKinds := [.data, .pinned], laidTests := true, laidLooks := .later }
def FnRunCommandsCardSaid : Prop := Claim7.holds Tryz.pinned (.plain (OpenSpec.ofChange fnRunCommandsSpec)) fnRunCommandsCard

/-- THE TIED CARD OF 'laws.FnRunCommandsTwice'. -/
def fnRunCommandsTwiceCard : Claim7 := { stood := { row := fnRunCommandsTwiceRow, standIns := [], harness := (true, "0bf09a092c0d4304c3184371e16a08630da025a5ed993b172cc94d67496ace16"), looks := false }, kinds := [], alts := [], laidByText := true, laidKinds := [.data, .pinned], laidTests := true, laidLooks := .later }
def FnRunCommandsTwiceCardSaid : Prop := Claim7.holds Tryz.pinned (.plain (OpenSpec.ofChange fnRunCommandsTwiceSpec)) fnRunCommandsTwiceCard

/-- THE TIED CARD OF 'laws.FnRunCommandsLog'. -/
def fnRunCommandsLogCard : Claim7 := { stood := { row := fnRunCommandsLogRow, standIns := [], harness := (true, "0bf09a092c0d4304c3184371e16a08630da025a5ed993b172cc94d67496ace16"), looks := false }, kinds := [], alts := [], laidByText := true, laidKinds := [.data, .pinned], laidTests := true, laidLooks := .later }
def FnRunCommandsLogCardSaid : Prop := Claim7.holds Tryz.pinned (.plain (OpenSpec.ofChange fnRunCommandsLogSpec)) fnRunCommandsLogCard

/-- THE TIED CARD OF 'laws.FnRunCommandsCache'. -/
def fnRunCommandsCacheCard : Claim7 := { stood := { row := fnRunCommandsCacheRow, standIns := [], harness := (true, "0bf09a092c0d4304c3184371e16a08630da025a5ed993b172cc94d67496ace16"), looks := false }, kinds := [], alts := [], laidByText := true, laidKinds := [.data, .pinned], laidTests := true, laidLooks := .later }
def FnRunCommandsCacheCardSaid : Prop := Claim7.holds Tryz.pinned (.plain (OpenSpec.ofChange fnRunCommandsCacheSpec)) fnRunCommandsCacheCard

/-- THE TIED CARD OF 'laws.FnRunCommandsForget'. -/
def fnRunCommandsForgetCard : Claim7 := { stood := { row := fnRunCommandsForgetRow, standIns := [], harness := (true, "0bf09a092c0d4304c3184371e16a08630da025a5ed993b172cc94d67496ace16"), looks := false }, kinds := [], alts := [], laidByText := true, laidKinds := [.data, .pinned], laidTests := true, laidLooks := .later }
def FnRunCommandsForgetCardSaid : Prop := Claim7.holds Tryz.pinned (.plain (OpenSpec.ofChange fnRunCommandsForgetSpec)) fnRunCommandsForgetCard

/-- THE TIED CARD OF 'laws.FnRunCommandsReload'. -/
def fnRunCommandsReloadCard : Claim7 := { stood := { row := fnRunCommandsReloadRow, standIns := [], harness := (true, "0bf09a092c0d4304c3184371e16a08630da025a5ed993b172cc94d67496ace16"), looks := false }, kinds := [], alts := [], laidByText := true, laidKinds := [.data, .pinned], laidTests := true, laidLooks := .later }
def FnRunCommandsReloadCardSaid : Prop := Claim7.holds Tryz.pinned (.plain (OpenSpec.ofChange fnRunCommandsReloadSpec)) fnRunCommandsReloadCard

/-- THE TIED CARD OF 'laws.FnReachOfRun'. -/
def fnReachOfRunCard : Claim7 := { stood := { row := fnReachOfRunRow, standIns := [], harness := (true, "0bf09a092c0d4304c3184371e16a08630da025a5ed993b172cc94d67496ace16"), looks := false }, kinds := [], alts := [], laidByText := true, laidKinds := [.data, .pinned], laidTests := true, laidLooks := .later }
def FnReachOfRunCardSaid : Prop := Claim7.holds Tryz.pinned (.plain (OpenSpec.ofChange fnReachOfRunSpec)) fnReachOfRunCard

/-- THE SECOND FORM's CARD OF 'laws.FnRunCommands'. -/
def fnRunCommandsUptoCard : Claim7 := { stood := { row := fnRunCommandsUptoRow, standIns := [], harness := (true, "0bf09a092c0d4304c3184371e16a08630da025a5ed993b172cc94d67496ace16"), looks := false }, kinds := [], alts := [], laidByText := true, laidKinds := [.data, .pinned], laidTests := true, laidLooks := .later }
def FnRunCommandsUptoCardSaid : Prop := Claim7.holds Tryz.pinned (.plain (OpenSpec.upto fnRunCommandsSpec)) fnRunCommandsUptoCard

/-- THE SECOND FORM's CARD OF 'laws.FnRunCommandsTwice'. -/
def fnRunCommandsTwiceUptoCard : Claim7 := { stood := { row := fnRunCommandsTwiceUptoRow, standIns := [], harness := (true, "0bf09a092c0d4304c3184371e16a08630da025a5ed993b172cc94d67496ace16"), looks := false }, kinds := [], alts := [], laidByText := true, laidKinds := [.data, .pinned], laidTests := true, laidLooks := .later }
def FnRunCommandsTwiceUptoCardSaid : Prop := Claim7.holds Tryz.pinned (.plain (OpenSpec.upto fnRunCommandsTwiceSpec)) fnRunCommandsTwiceUptoCard

/-- THE SECOND FORM's CARD OF 'laws.FnRunCommandsLog'. -/
def fnRunCommandsLogUptoCard : Claim7 := { stood := { row := fnRunCommandsLogUptoRow, standIns := [], harness := (true, "0bf09a092c0d4304c3184371e16a08630da025a5ed993b172cc94d67496ace16"), looks := false }, kinds := [], alts := [], laidByText := true, laidKinds := [.data, .pinned], laidTests := true, laidLooks := .later }
def FnRunCommandsLogUptoCardSaid : Prop := Claim7.holds Tryz.pinned (.plain (OpenSpec.upto fnRunCommandsLogSpec)) fnRunCommandsLogUptoCard

/-- THE SECOND FORM's CARD OF 'laws.FnRunCommandsCache'. -/
def fnRunCommandsCacheUptoCard : Claim7 := { stood := { row := fnRunCommandsCacheUptoRow, standIns := [], harness := (true, "0bf09a092c0d4304c3184371e16a08630da025a5ed993b172cc94d67496ace16"), looks := false }, kinds := [], alts := [], laidByText := true, laidKinds := [.data, .pinned], laidTests := true, laidLooks := .later }
def FnRunCommandsCacheUptoCardSaid : Prop := Claim7.holds Tryz.pinned (.plain (OpenSpec.upto fnRunCommandsCacheSpec)) fnRunCommandsCacheUptoCard

/-- THE SECOND FORM's CARD OF 'laws.FnRunCommandsForget'. -/
def fnRunCommandsForgetUptoCard : Claim7 := { stood := { row := fnRunCommandsForgetUptoRow, standIns := [], harness := (true, "0bf09a092c0d4304c3184371e16a08630da025a5ed993b172cc94d67496ace16"), looks := false }, kinds := [], alts := [], laidByText := true, laidKinds := [.data, .pinned], laidTests := true, laidLooks := .later }
def FnRunCommandsForgetUptoCardSaid : Prop := Claim7.holds Tryz.pinned (.plain (OpenSpec.upto fnRunCommandsForgetSpec)) fnRunCommandsForgetUptoCard

/-- THE SECOND FORM's CARD OF 'laws.FnRunCommandsReload'. -/
def fnRunCommandsReloadUptoCard : Claim7 := { stood := { row := fnRunCommandsReloadUptoRow, standIns := [], harness := (true, "0bf09a092c0d4304c3184371e16a08630da025a5ed993b172cc94d67496ace16"), looks := false }, kinds := [], alts := [], laidByText := true, laidKinds := [.data, .pinned], laidTests := true, laidLooks := .later }
def FnRunCommandsReloadUptoCardSaid : Prop := Claim7.holds Tryz.pinned (.plain (OpenSpec.upto fnRunCommandsReloadSpec)) fnRunCommandsReloadUptoCard

/-- THE SECOND FORM's CARD OF 'laws.FnReachOfRun'. -/
def fnReachOfRunUptoCard : Claim7 := { stood := { row := fnReachOfRunUptoRow, standIns := [], harness := (true, "0bf09a092c0d4304c3184371e16a08630da025a5ed993b172cc94d67496ace16"), looks := false }, kinds := [], alts := [], laidByText := true, laidKinds := [.data, .pinned], laidTests := true, laidLooks := .later }
def FnReachOfRunUptoCardSaid : Prop := Claim7.holds Tryz.pinned (.plain (OpenSpec.upto fnReachOfRunSpec)) fnReachOfRunUptoCard
end Rows
end Go.Proofs.YtnlhpkbphdbknaaGreatDoor
