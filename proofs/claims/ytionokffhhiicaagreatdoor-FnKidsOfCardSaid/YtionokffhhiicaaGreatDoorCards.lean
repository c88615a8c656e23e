/-
  DERIVED. GIVEN WITH THE SEED: THE CARDS: each row of YtionokffhhiicaaGreatDoorRows.lean that lists a variable, with what it lists TIED to the program's text (the seventh form; the later family's looks); each row that meets fmt, with fmt's text TOLD by the authors' own Lean function (tested against real Go, not proved from fmt's source: count such statements apart). THE CARD IS WHAT COUNTS. Prove the row's statement (the work); the ties are given (YtionokffhhiicaaGreatDoorTie.lean); close each card by the builder's one call (the guide's Derived/Test/ToyasCard.lean, 'card_holds'). Laid BY PROGRAM, IN A SANDBOX (cutbox-door.mjs). By AI agents, Wed Nov 11 2026. No macro, syntax, notation, axiom, sorry.
-/
import Derived.Test.YtionokffhhiicaaGreatDoorRows
import GoSem.ClaimSeven
namespace Go.Proofs.YtionokffhhiicaaGreatDoor
namespace Rows

/-- THE TIED CARD OF 'laws.FnExactSameFinds'. -/
def fnExactSameFindsCard : Claim7 := { stood := { row := fnExactSameFindsRow, standIns := [], harness := (true, "ccfaf817304eb132ae62ff61e578100054ccc538f3b7632e6dc167ebeed47a05"), looks := false }, kinds := [], alts := [], laidByText := true, laidKinds := [.data, .pinned], laidTests := true, laidLooks := .later }
def FnExactSameFindsCardSaid : Prop := Claim7.holds Tryz.pinned (.plain (OpenSpec.ofChange fnExactSameFindsSpec)) fnExactSameFindsCard

/-- THE TIED CARD OF 'laws.FnStaleDirs'. -/
def fnStaleDirsCard : Claim7 := { stood := { row := fnStaleDirsRow, standIns := [], harness := (true, "ccfaf817304eb132ae62ff61e578100054ccc538f3b7632e6dc167ebeed47a05"), looks := false }, kinds := [], alts := [], laidByText := true, laidKinds := [.data, .pinned], laidTests := true, laidLooks := .later }
def FnStaleDirsCardSaid : Prop := Claim7.holds Tryz.pinned (.plain (OpenSpec.ofChange fnStaleDirsSpec)) fnStaleDirsCard

/-- THE TIED CARD OF 'laws.FnKidsOf'. -/
def fnKidsOfCard : Claim7 := { stood := { row := fnKidsOfRow, standIns := [], harness := (true, "ccfaf817304eb132ae62ff61e578100054ccc538f3b7632e6dc167ebeed47a05"), looks := false }, kinds := [], alts := [], laidByText := true, laidKinds := [.data, .pinned], laidTests := true, laidLooks := .later }
def FnKidsOfCardSaid : Prop := Claim7.holds Tryz.pinned (.plain (OpenSpec.ofChange fnKidsOfSpec)) fnKidsOfCard

/-- THE TIED CARD OF 'laws.FnExactFoundNames'. -/
def fnExactFoundNamesCard : Claim7 := { stood := { row := fnExactFoundNamesRow, standIns := [], harness := (true, "ccfaf817304eb132ae62ff61e578100054ccc538f3b7632e6dc167ebeed47a05"), looks := false }, kinds := [], alts := [], laidByText := true, laidKinds := [.data, .pinned], laidTests := true, laidLooks := .later }
def FnExactFoundNamesCardSaid : Prop := Claim7.holds Tryz.pinned (.plain (OpenSpec.ofChange fnExactFoundNamesSpec)) fnExactFoundNamesCard

/-- THE TIED CARD OF 'laws.FnExactStaleDirs'. -/
def fnExactStaleDirsCard : Claim7 := { stood := { row := fnExactStaleDirsRow, standIns := [], harness := (true, "ccfaf817304eb132ae62ff61e578100054ccc538f3b7632e6dc167ebeed47a05"), looks := false }, kinds := [], alts := [], laidByText := true, laidKinds := [.data, .pinned], laidTests := true, laidLooks := .later }
def FnExactStaleDirsCardSaid : Prop := Claim7.holds Tryz.pinned (.plain (OpenSpec.ofChange fnExactStaleDirsSpec)) fnExactStaleDirsCard

/-- THE SECOND FORM's CARD OF 'laws.FnExactSameFinds'. -/
def fnExactSameFindsUptoCard : Claim7 := { stood := { row := fnExactSameFindsUptoRow, standIns := [], harness := (true, "ccfaf817304eb132ae62ff61e578100054ccc538f3b7632e6dc167ebeed47a05"), looks := false }, kinds := [], alts := [], laidByText := true, laidKinds := [.data, .pinned], laidTests := true, laidLooks := .later }
def FnExactSameFindsUptoCardSaid : Prop := Claim7.holds Tryz.pinned (.plain (OpenSpec.upto fnExactSameFindsSpec)) fnExactSameFindsUptoCard

/-- THE SECOND FORM's CARD OF 'laws.FnStaleDirs'. -/
def fnStaleDirsUptoCard : Claim7 := { stood := { row := fnStaleDirsUptoRow, standIns := [], harness := (true, "ccfaf817304eb132ae62ff61e578100054ccc538f3b7632e6dc167ebeed47a05"), looks := false }, kinds := [], alts := [], laidByText := true, laidKinds := [.data, .pinned], laidTests := true, laidLooks := .later }
def FnStaleDirsUptoCardSaid : Prop := Claim7.holds Tryz.pinned (.plain (OpenSpec.upto fnStaleDirsSpec)) fnStaleDirsUptoCard

/-- THE SECOND FORM's CARD OF 'laws.FnKidsOf'. -/
def fnKidsOfUptoCard : Claim7 := { stood := { row := fnKidsOfUptoRow, standIns := [], harness := (true, "ccfaf817304eb132ae62ff61e578100054ccc538f3b7632e6dc167ebeed47a05"), looks := false }, kinds := [], alts := [], laidByText := true, laidKinds := [.data, .pinned], laidTests := true, laidLooks := .later }
def FnKidsOfUptoCardSaid : Prop := Claim7.holds Tryz.pinned (.plain (OpenSpec.upto fnKidsOfSpec)) fnKidsOfUptoCard

/-- THE SECOND FORM's CARD OF 'laws.FnExactFoundNames'. -/
def fnExactFoundNamesUptoCard : Claim7 := { stood := { row := fnExactFoundNamesUptoRow, standIns := [], harness := (true, "ccfaf817304eb132ae62ff61e578100054ccc538f3b7632e6dc167ebeed47a05"), looks := false }, kinds := [], alts := [], laidByText := true, laidKinds := [.data, .pinned], laidTests := true, laidLooks := .later }
def FnExactFoundNamesUptoCardSaid : Prop := Claim7.holds Tryz.pinned (.plain (OpenSpec.upto fnExactFoundNamesSpec)) fnExactFoundNamesUptoCard

/-- THE SECOND FORM's CARD OF 'laws.FnExactStaleDirs'. -/
def fnExactStaleDirsUptoCard : Claim7 := { stood := { row := fnExactStaleDirsUptoRow, standIns := [], harness := (true, "ccfaf817304eb132ae62ff61e578100054ccc538f3b7632e6dc167ebeed47a05"), looks := false }, kinds := [], alts := [], laidByText := true, laidKinds := [.data, .pinned], laidTests := true, laidLooks := .later }
def FnExactStaleDirsUptoCardSaid : Prop := Claim7.holds Tryz.pinned (.plain (OpenSpec.upto fnExactStaleDirsSpec)) fnExactStaleDirsUptoCard
end Rows
end Go.Proofs.YtionokffhhiicaaGreatDoor
