/-
  DERIVED. GIVEN WITH THE SEED: THE CARDS: each row of YtobplpdjkfbfoaaGreatDoorRows.lean that lists a variable, with what it lists TIED to the program's text (the seventh form; the later family's looks); each row that meets fmt, with fmt's text TOLD by the authors' own Lean function (tested against real Go, not proved from fmt's source: count such statements apart). THE CARD IS WHAT COUNTS. Prove the row's statement (the work); the ties are given (YtobplpdjkfbfoaaGreatDoorTie.lean); close each card by the builder's one call (the guide's Derived/Test/ToyasCard.lean, 'card_holds'). Laid BY PROGRAM, IN A SANDBOX (cutbox-door.mjs). By AI agents, Wed Nov 11 2026. No macro, syntax, notation, axiom, sorry.
-/
import Derived.Test.YtobplpdjkfbfoaaGreatDoorRows
import GoSem.ClaimSeven
namespace Go.Proofs.YtobplpdjkfbfoaaGreatDoor
namespace Rows

/-- THE TIED CARD OF 'laws.FnLayersOf'. -/
def fnLayersOfCard : Claim7 := { stood := { row := fnLayersOfRow, standIns := [], harness := (true, "bdafe80bb55cfa30775f06f97a283c401f5470d5339780ed40674d2007fbe984"), looks := false }, kinds := [], alts := [], laidByText := true, laidKinds := [.data, .pinned], laidTests := true, laidLooks := .later }
def FnLayersOfCardSaid : Prop := Claim7.holds Tryz.pinned (.plain (OpenSpec.ofChange fnLayersOfSpec)) fnLayersOfCard

/-- THE TIED CARD OF 'laws.FnExactLayersOf'. -/
def fnExactLayersOfCard : Claim7 := { stood := { row := fnExactLayersOfRow, standIns := [], harness := (true, "bdafe80bb55cfa30775f06f97a283c401f5470d5339780ed40674d2007fbe984"), looks := false }, kinds := [], alts := [], laidByText := true, laidKinds := [.data, .pinned], laidTests := true, laidLooks := .later }
def FnExactLayersOfCardSaid : Prop := Claim7.holds Tryz.pinned (.plain (OpenSpec.ofChange fnExactLayersOfSpec)) fnExactLayersOfCard

/-- THE TIED CARD OF 'laws.FnPlainOrderNeeds'. -/
def fnPlainOrderNeedsCard : Claim7 := { stood := { row := fnPlainOrderNeedsRow, standIns := [], harness := (true, "bdafe80bb55cfa30775f06f97a283c401f5470d5339780ed40674d2007fbe984"), looks := false }, kinds := [], alts := [], laidByText := true, laidKinds := [.data, .pinned], laidTests := true, laidLooks := .later }
def FnPlainOrderNeedsCardSaid : Prop := Claim7.holds Tryz.pinned (.plain (OpenSpec.ofChange fnPlainOrderNeedsSpec)) fnPlainOrderNeedsCard

/-- THE TIED CARD OF 'laws.FnExactPlainOrder'. -/
def fnExactPlainOrderCard : Claim7 := { stood := { row := fnExactPlainOrderRow, standIns := [], harness := (true, "bdafe80bb55cfa30775f06f97a283c401f5470d5339780ed40674d2007fbe984"), looks := false }, kinds := [], alts := [], laidByText := true, laidKinds := [.data, .pinned], laidTests := true, laidLooks := .later }
def FnExactPlainOrderCardSaid : Prop := Claim7.holds Tryz.pinned (.plain (OpenSpec.ofChange fnExactPlainOrderSpec)) fnExactPlainOrderCard

/-- THE SECOND FORM's CARD OF 'laws.FnLayersOf'. -/
def fnLayersOfUptoCard : Claim7 := { stood := { row := fnLayersOfUptoRow, standIns := [], harness := (true, "bdafe80bb55cfa30775f06f97a283c401f5470d5339780ed40674d2007fbe984"), looks := false }, kinds := [], alts := [], laidByText := true, laidKinds := [.data, .pinned], laidTests := true, laidLooks := .later }
def FnLayersOfUptoCardSaid : Prop := Claim7.holds Tryz.pinned (.plain (OpenSpec.upto fnLayersOfSpec)) fnLayersOfUptoCard

/-- THE SECOND FORM's CARD OF 'laws.FnExactLayersOf'. -/
def fnExactLayersOfUptoCard : Claim7 := { stood := { row := fnExactLayersOfUptoRow, standIns := [], harness := (true, "bdafe80bb55cfa30775f06f97a283c401f5470d5339780ed40674d2007fbe984"), looks := false }, kinds := [], alts := [], laidByText := true, laidKinds := [.data, .pinned], laidTests := true, laidLooks := .later }
def FnExactLayersOfUptoCardSaid : Prop := Claim7.holds Tryz.pinned (.plain (OpenSpec.upto fnExactLayersOfSpec)) fnExactLayersOfUptoCard

/-- THE SECOND FORM's CARD OF 'laws.FnPlainOrderNeeds'. -/
def fnPlainOrderNeedsUptoCard : Claim7 := { stood := { row := fnPlainOrderNeedsUptoRow, standIns := [], harness := (true, "bdafe80bb55cfa30775f06f97a283c401f5470d5339780ed40674d2007fbe984"), looks := false }, kinds := [], alts := [], laidByText := true, laidKinds := [.data, .pinned], laidTests := true, laidLooks := .later }
def FnPlainOrderNeedsUptoCardSaid : Prop := Claim7.holds Tryz.pinned (.plain (OpenSpec.upto fnPlainOrderNeedsSpec)) fnPlainOrderNeedsUptoCard

/-- THE SECOND FORM's CARD OF 'laws.FnExactPlainOrder'. -/
def fnExactPlainOrderUptoCard : Claim7 := { stood := { row := fnExactPlainOrderUptoRow, standIns := [], harness := (true, "bdafe80bb55cfa30775f06f97a283c401f5470d5339780ed40674d2007fbe984"), looks := false }, kinds := [], alts := [], laidByText := true, laidKinds := [.data, .pinned], laidTests := true, laidLooks := .later }
def FnExactPlainOrderUptoCardSaid : Prop := Claim7.holds Tryz.pinned (.plain (OpenSpec.upto fnExactPlainOrderSpec)) fnExactPlainOrderUptoCard
end Rows
end Go.Proofs.YtobplpdjkfbfoaaGreatDoor
