/-
  DERIVED. GIVEN WITH THE SEED: THE CARDS: each row of YtpmkkijamfgaeaaGreatDoorRows.lean that lists a variable, with what it lists TIED to the program's text (the seventh form; the later family's looks); each row that meets fmt, with fmt's text TOLD by the authors' own Lean function (tested against real Go, not proved from fmt's source: count such statements apart). THE CARD IS WHAT COUNTS. Prove the row's statement (the work); the ties are given (YtpmkkijamfgaeaaGreatDoorTie.lean); close each card by the builder's one call (the guide's Derived/Test/ToyasCard.lean, 'card_holds'). Laid BY PROGRAM, IN A SANDBOX (cutbox-door.mjs). By AI agents, Wed Nov 11 2026. No macro, syntax, notation, axiom, sorry.
-/
import Derived.Test.YtpmkkijamfgaeaaGreatDoorRows
import GoSem.ClaimSeven
namespace Go.Proofs.YtpmkkijamfgaeaaGreatDoor
namespace Rows

/-- THE TIED CARD OF 'laws.FnReachOfRun'. -/
def fnReachOfRunCard : Claim7 := { stood := { row := fnReachOfRunRow, standIns := [], harness := (true, "546e3af634571d826443a0f4e6143e06090daa87b2611f5ff48d1a1d1864eee7"), looks := false }, kinds := [], alts := [], laidByText := true, laidKinds := [.data, .pinned], laidTests := true, laidLooks := .later }
def FnReachOfRunCardSaid : Prop := Claim7.holds Tryz.pinned (.plain (OpenSpec.ofChange fnReachOfRunSpec)) fnReachOfRunCard

/-- THE TIED CARD OF 'laws.FnIsSimple'. -/
def fnIsSimpleCard : Claim7 := { stood := { row := fnIsSimpleRow, standIns := [], harness := (true, "546e3af634571d826443a0f4e6143e06090daa87b2611f5ff48d1a1d1864eee7"), looks := false }, kinds := [], alts := [], laidByText := true, laidKinds := [.data, .pinned], laidTests := true, laidLooks := .later }
def FnIsSimpleCardSaid : Prop := Claim7.holds Tryz.pinned (.plain (OpenSpec.ofChange fnIsSimpleSpec)) fnIsSimpleCard

/-- THE TIED CARD OF 'laws.FnPlainOrder'. -/
def fnPlainOrderCard : Claim7 := { stood := { row := fnPlainOrderRow, standIns := [], harness := (true, "546e3af634571d826443a0f4e6143e06090daa87b2611f5ff48d1a1d1864eee7"), looks := false }, kinds := [], alts := [], laidByText := true, laidKinds := [.data, .pinned], laidTests := true, laidLooks := .later }
def FnPlainOrderCardSaid : Prop := Claim7.holds Tryz.pinned (.plain (OpenSpec.ofChange fnPlainOrderSpec)) fnPlainOrderCard

/-- THE TIED CARD OF 'laws.FnRunFresh'. -/
def fnRunFreshCard : Claim7 := { stood := { row := fnRunFreshRow, standIns := [], harness := (true, "546e3af634571d826443a0f4e6143e06090daa87b2611f5ff48d1a1d1864eee7"), looks := false }, kinds := [], alts := [], laidByText := true, laidKinds := [.data, .pinned], laidTests := true, laidLooks := .later }
def FnRunFreshCardSaid : Prop := Claim7.holds Tryz.pinned (.plain (OpenSpec.ofChange fnRunFreshSpec)) fnRunFreshCard

/-- THE SECOND FORM's CARD OF 'laws.FnReachOfRun'. -/
def fnReachOfRunUptoCard : Claim7 := { stood := { row := fnReachOfRunUptoRow, standIns := [], harness := (true, "546e3af634571d826443a0f4e6143e06090daa87b2611f5ff48d1a1d1864eee7"), looks := false }, kinds := [], alts := [], laidByText := true, laidKinds := [.data, .pinned], laidTests := true, laidLooks := .later }
def FnReachOfRunUptoCardSaid : Prop := Claim7.holds Tryz.pinned (.plain (OpenSpec.upto fnReachOfRunSpec)) fnReachOfRunUptoCard

/-- THE SECOND FORM's CARD OF 'laws.FnIsSimple'. -/
def fnIsSimpleUptoCard : Claim7 := { stood := { row := fnIsSimpleUptoRow, standIns := [], harness := (true, "546e3af634571d826443a0f4e6143e06090daa87b2611f5ff48d1a1d1864eee7"), looks := false }, kinds := [], alts := [], laidByText := true, laidKinds := [.data, .pinned], laidTests := true, laidLooks := .later }
def FnIsSimpleUptoCardSaid : Prop := Claim7.holds Tryz.pinned (.plain (OpenSpec.upto fnIsSimpleSpec)) fnIsSimpleUptoCard

/-- THE SECOND FORM's CARD OF 'laws.FnPlainOrder'. -/
def fnPlainOrderUptoCard : Claim7 := { stood := { row := fnPlainOrderUptoRow, standIns := [], harness := (true, "546e3af634571d826443a0f4e6143e06090daa87b2611f5ff48d1a1d1864eee7"), looks := false }, kinds := [], alts := [], laidByText := true, laidKinds := [.data, .pinned], laidTests := true, laidLooks := .later }
def FnPlainOrderUptoCardSaid : Prop := Claim7.holds Tryz.pinned (.plain (OpenSpec.upto fnPlainOrderSpec)) fnPlainOrderUptoCard

/-- THE SECOND FORM's CARD OF 'laws.FnRunFresh'. -/
def fnRunFreshUptoCard : Claim7 := { stood := { row := fnRunFreshUptoRow, standIns := [], harness := (true, "546e3af634571d826443a0f4e6143e06090daa87b2611f5ff48d1a1d1864eee7"), looks := false }, kinds := [], alts := [], laidByText := true, laidKinds := [.data, .pinned], laidTests := true, laidLooks := .later }
def FnRunFreshUptoCardSaid : Prop := Claim7.holds Tryz.pinned (.plain (OpenSpec.upto fnRunFreshSpec)) fnRunFreshUptoCard
end Rows
end Go.Proofs.YtpmkkijamfgaeaaGreatDoor
