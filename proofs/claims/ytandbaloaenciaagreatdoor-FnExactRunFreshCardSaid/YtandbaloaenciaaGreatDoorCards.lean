/-
  DERIVED. GIVEN WITH THE SEED: THE CARDS: each row of YtandbaloaenciaaGreatDoorRows.lean that lists a variable, with what it lists TIED to the program's text (the seventh form; the later family's looks); each row that meets fmt, with fmt's text TOLD by the authors' own Lean function (tested against real Go, not proved from fmt's source: count such statements apart). THE CARD IS WHAT COUNTS. Prove the row's statement (the work); the ties are given (YtandbaloaenciaaGreatDoorTie.lean); close each card by the builder's one call (the guide's Derived/Test/ToyasCard.lean, 'card_holds'). Laid BY PROGRAM, IN A SANDBOX (cutbox-door.mjs). By AI agents, Wed Nov 11 2026. No macro, syntax, notation, axiom, sorry.
-/
import Derived.Test.YtandbaloaenciaaGreatDoorRows
import GoSem.ClaimSeven
namespace Go.Proofs.YtandbaloaenciaaGreatDoor
namespace Rows

/-- THE TIED CARD OF 'laws.FnExactRunCommands'. -/
def fnExactRunCommandsCard : Claim7 := { stood := { row := fnExactRunCommandsRow, standIns := [], harness := (true, "11cccccaee7ebd88f0ed7636e036876362389fca871cf43d70f996d48003a653"), looks := false }, kinds := [], alts := [], laidByText := true, laidKinds := [.data, .pinned], laidTests := true, laidLooks := .later }
def FnExactRunCommandsCardSaid : Prop := Claim7.holds Tryz.pinned (.plain (OpenSpec.ofChange fnExactRunCommandsSpec)) fnExactRunCommandsCard

/-- THE TIED CARD OF 'laws.FnRunFresh'. -/
def fnRunFreshCard : Claim7 := { stood := { row := fnRunFreshRow, standIns := [], harness := (true, "11cccccaee7ebd88f0ed7636e036876362389fca871cf43d70f996d48003a653"), looks := false }, kinds := [], alts := [], laidByText := true, laidKinds := [.data, .pinned], laidTests := true, laidLooks := .later }
def FnRunFreshCardSaid : Prop := Claim7.holds Tryz.pinned (.plain (OpenSpec.ofChange fnRunFreshSpec)) fnRunFreshCard

/-- THE TIED CARD OF 'laws.FnExactRunFresh'. -/
def fnExactRunFreshCard : Claim7 := { stood := { row := fnExactRunFreshRow, standIns := [], harness := (true, "11cccccaee7ebd88f0ed7636e036876362389fca871cf43d70f996d48003a653"), looks := false }, kinds := [], alts := [], laidByText := true, laidKinds := [.data, .pinned], laidTests := true, laidLooks := .later }
def FnExactRunFreshCardSaid : Prop := Claim7.holds Tryz.pinned (.plain (OpenSpec.ofChange fnExactRunFreshSpec)) fnExactRunFreshCard

/-- THE SECOND FORM's CARD OF 'laws.FnExactRunCommands'. -/
def fnExactRunCommandsUptoCard : Claim7 := { stood := { row := fnExactRunCommandsUptoRow, standIns := [], harness := (true, "11cccccaee7ebd88f0ed7636e036876362389fca871cf43d70f996d48003a653"), looks := false }, kinds := [], alts := [], laidByText := true, laidKinds := [.data, .pinned], laidTests := true, laidLooks := .later }
def FnExactRunCommandsUptoCardSaid : Prop := Claim7.holds Tryz.pinned (.plain (OpenSpec.upto fnExactRunCommandsSpec)) fnExactRunCommandsUptoCard

/-- THE SECOND FORM's CARD OF 'laws.FnRunFresh'. -/
def fnRunFreshUptoCard : Claim7 := { stood := { row := fnRunFreshUptoRow, standIns := [], harness := (true, "11cccccaee7ebd88f0ed7636e036876362389fca871cf43d70f996d48003a653"), looks := false }, kinds := [], alts := [], laidByText := true, laidKinds := [.data, .pinned], laidTests := true, laidLooks := .later }
def FnRunFreshUptoCardSaid : Prop := Claim7.holds Tryz.pinned (.plain (OpenSpec.upto fnRunFreshSpec)) fnRunFreshUptoCard

/-- THE SECOND FORM's CARD OF 'laws.FnExactRunFresh'. -/
def fnExactRunFreshUptoCard : Claim7 := { stood := { row := fnExactRunFreshUptoRow, standIns := [], harness := (true, "11cccccaee7ebd88f0ed7636e036876362389fca871cf43d70f996d48003a653"), looks := false }, kinds := [], alts := [], laidByText := true, laidKinds := [.data, .pinned], laidTests := true, laidLooks := .later }
def FnExactRunFreshUptoCardSaid : Prop := Claim7.holds Tryz.pinned (.plain (OpenSpec.upto fnExactRunFreshSpec)) fnExactRunFreshUptoCard
end Rows
end Go.Proofs.YtandbaloaenciaaGreatDoor
