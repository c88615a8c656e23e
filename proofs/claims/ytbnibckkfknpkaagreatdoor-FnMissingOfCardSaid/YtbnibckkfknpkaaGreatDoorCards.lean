/-
  DERIVED. GIVEN WITH THE SEED: THE CARDS: each row of YtbnibckkfknpkaaGreatDoorRows.lean that lists a variable, with what it lists TIED to the program's text (the seventh form; the later family's looks); each row that meets fmt, with fmt's text TOLD by the authors' own Lean function (tested against real Go, not proved from fmt's source: count such statements apart). THE CARD IS WHAT COUNTS. Prove the row's statement (the work); the ties are given (YtbnibckkfknpkaaGreatDoorTie.lean); close each card by the builder's one call (the guide's Derived/Test/ToyasCard.lean, 'card_holds'). Laid BY PROGRAM, IN A SANDBOX (cutbox-door.mjs). By AI agents, Wed Nov 11 2026. No macro, syntax, notation, axiom, sorry.
-/
import Derived.Test.YtbnibckkfknpkaaGreatDoorRows
import GoSem.ClaimSeven
namespace Go.Proofs.YtbnibckkfknpkaaGreatDoor
namespace Rows

/-- THE TIED CARD OF 'laws.FnExactIsSimple'. -/
def fnExactIsSimpleCard : Claim7 := { stood := { row := fnExactIsSimpleRow, standIns := [], harness := (true, "1c2eba818e10eb4cb3a3ebb6b2ca8991701bad3b7e7e37954f9ffd75d14ec2ba"), looks := false }, kinds := [], alts := [], laidByText := true, laidKinds := [.data, .pinned], laidTests := true, laidLooks := .later }
def FnExactIsSimpleCardSaid : Prop := Claim7.holds Tryz.pinned (.plain (OpenSpec.ofChange fnExactIsSimpleSpec)) fnExactIsSimpleCard

/-- THE TIED CARD OF 'laws.FnExactKidsOf'. -/
def fnExactKidsOfCard : Claim7 := { stood := { row := fnExactKidsOfRow, standIns := [], harness := (true, "1c2eba818e10eb4cb3a3ebb6b2ca8991701bad3b7e7e37954f9ffd75d14ec2ba"), looks := false }, kinds := [], alts := [], laidByText := true, laidKinds := [.data, .pinned], laidTests := true, laidLooks := .later }
def FnExactKidsOfCardSaid : Prop := Claim7.holds Tryz.pinned (.plain (OpenSpec.ofChange fnExactKidsOfSpec)) fnExactKidsOfCard

/-- THE TIED CARD OF 'laws.FnReachOf'. -/
def fnReachOfCard : Claim7 := { stood := { row := fnReachOfRow, standIns := [], harness := (true, "1c2eba818e10eb4cb3a3ebb6b2ca8991701bad3b7e7e37954f9ffd75d14ec2ba"), looks := false }, kinds := [], alts := [], laidByText := true, laidKinds := [.data, .pinned], laidTests := true, laidLooks := .later }
def FnReachOfCardSaid : Prop := Claim7.holds Tryz.pinned (.plain (OpenSpec.ofChange fnReachOfSpec)) fnReachOfCard

/-- THE TIED CARD OF 'laws.FnMissingOf'. -/
def fnMissingOfCard : Claim7 := { stood := { row := fnMissingOfRow, standIns := [], harness := (true, "1c2eba818e10eb4cb3a3ebb6b2ca8991701bad3b7e7e37954f9ffd75d14ec2ba"), looks := false }, kinds := [], alts := [], laidByText := true, laidKinds := [.data, .pinned], laidTests := true, laidLooks := .later }
def FnMissingOfCardSaid : Prop := Claim7.holds Tryz.pinned (.plain (OpenSpec.ofChange fnMissingOfSpec)) fnMissingOfCard

/-- THE TIED CARD OF 'laws.FnRingsOf'. -/
def fnRingsOfCard : Claim7 := { stood := { row := fnRingsOfRow, standIns := [], harness := (true, "1c2eba818e10eb4cb3a3ebb6b2ca8991701bad3b7e7e37954f9ffd75d14ec2ba"), looks := false }, kinds := [], alts := [], laidByText := true, laidKinds := [.data, .pinned], laidTests := true, laidLooks := .later }
def FnRingsOfCardSaid : Prop := Claim7.holds Tryz.pinned (.plain (OpenSpec.ofChange fnRingsOfSpec)) fnRingsOfCard

/-- THE TIED CARD OF 'laws.FnUsersOf'. -/
def fnUsersOfCard : Claim7 := { stood := { row := fnUsersOfRow, standIns := [], harness := (true, "1c2eba818e10eb4cb3a3ebb6b2ca8991701bad3b7e7e37954f9ffd75d14ec2ba"), looks := false }, kinds := [], alts := [], laidByText := true, laidKinds := [.data, .pinned], laidTests := true, laidLooks := .later }
def FnUsersOfCardSaid : Prop := Claim7.holds Tryz.pinned (.plain (OpenSpec.ofChange fnUsersOfSpec)) fnUsersOfCard

/-- THE TIED CARD OF 'laws.FnExactReachOf'. -/
def fnExactReachOfCard : Claim7 := { stood := { row := fnExactReachOfRow, standIns := [], harness := (true, "1c2eba818e10eb4cb3a3ebb6b2ca8991701bad3b7e7e37954f9ffd75d14ec2ba"), looks := false }, kinds := [], alts := [], laidByText := true, laidKinds := [.data, .pinned], laidTests := true, laidLooks := .later }
def FnExactReachOfCardSaid : Prop := Claim7.holds Tryz.pinned (.plain (OpenSpec.ofChange fnExactReachOfSpec)) fnExactReachOfCard

/-- THE TIED CARD OF 'laws.FnExactMissingOf'. -/
def fnExactMissingOfCard : Claim7 := { stood := { row := fnExactMissingOfRow, standIns := [], harness := (true, "1c2eba818e10eb4cb3a3ebb6b2ca8991701bad3b7e7e37954f9ffd75d14ec2ba"), looks := false }, kinds := [], alts := [], laidByText := true, laidKinds := [.data, .pinned], laidTests := true, laidLooks := .later }
def FnExactMissingOfCardSaid : Prop := Claim7.holds Tryz.pinned (.plain (OpenSpec.ofChange fnExactMissingOfSpec)) fnExactMissingOfCard

/-- THE TIED CARD OF 'laws.FnExactRingsOf'. -/
def fnExactRingsOfCard : Claim7 := { stood := { row := fnExactRingsOfRow, standIns := [], harness := (true, "1c2eba818e10eb4cb3a3ebb6b2ca8991701bad3b7e7e37954f9ffd75d14ec2ba"), looks := false }, kinds := [], alts := [], laidByText := true, laidKinds := [.data, .pinned], laidTests := true, laidLooks := .later }
def FnExactRingsOfCardSaid : Prop := Claim7.holds Tryz.pinned (.plain (OpenSpec.ofChange fnExactRingsOfSpec)) fnExactRingsOfCard

/-- THE TIED CARD OF 'laws.FnExactUsersOf'. -/
def fnExactUsersOfCard : Claim7 := { stood := { row := fnExactUsersOfRow, standIns := [], harness := (true, "1c2eba818e10eb4cb3a3ebb6b2ca8991701bad3b7e7e37954f9ffd75d14ec2ba"), looks := false }, kinds := [], alts := [], laidByText := true, laidKinds := [.data, .pinned], laidTests := true, laidLooks := .later }
def FnExactUsersOfCardSaid : Prop := Claim7.holds Tryz.pinned (.plain (OpenSpec.ofChange fnExactUsersOfSpec)) fnExactUsersOfCard

/-- THE SECOND FORM's CARD OF 'laws.FnExactIsSimple'. -/
def fnExactIsSimpleUptoCard : Claim7 := { stood := { row := fnExactIsSimpleUptoRow, standIns := [], harness := (true, "1c2eba818e10eb4cb3a3ebb6b2ca8991701bad3b7e7e37954f9ffd75d14ec2ba"), looks := false }, kinds := [], alts := [], laidByText := true, laidKinds := [.data, .pinned], laidTests := true, laidLooks := .later }
def FnExactIsSimpleUptoCardSaid : Prop := Claim7.holds Tryz.pinned (.plain (OpenSpec.upto fnExactIsSimpleSpec)) fnExactIsSimpleUptoCard

/-- THE SECOND FORM's CARD OF 'laws.FnExactKidsOf'. -/
def fnExactKidsOfUptoCard : Claim7 := { stood := { row := fnExactKidsOfUptoRow, standIns := [], harness := (true, "1c2eba818e10eb4cb3a3ebb6b2ca8991701bad3b7e7e37954f9ffd75d14ec2ba"), looks := false }, kinds := [], alts := [], laidByText := true, laidKinds := [.data, .pinned], laidTests := true, laidLooks := .later }
def FnExactKidsOfUptoCardSaid : Prop := Claim7.holds Tryz.pinned (.plain (OpenSpec.upto fnExactKidsOfSpec)) fnExactKidsOfUptoCard

/-- THE SECOND FORM's CARD OF 'laws.FnReachOf'. -/
def fnReachOfUptoCard : Claim7 := { stood := { row := fnReachOfUptoRow, standIns := [], harness := (true, "1c2eba818e10eb4cb3a3ebb6b2ca8991701bad3b7e7e37954f9ffd75d14ec2ba"), looks := false }, kinds := [], alts := [], laidByText := true, laidKinds := [.data, .pinned], laidTests := true, laidLooks := .later }
def FnReachOfUptoCardSaid : Prop := Claim7.holds Tryz.pinned (.plain (OpenSpec.upto fnReachOfSpec)) fnReachOfUptoCard

/-- THE SECOND FORM's CARD OF 'laws.FnMissingOf'. -/
def fnMissingOfUptoCard : Claim7 := { stood := { row := fnMissingOfUptoRow, standIns := [], harness := (true, "1c2eba818e10eb4cb3a3ebb6b2ca8991701bad3b7e7e37954f9ffd75d14ec2ba"), looks := false }, kinds := [], alts := [], laidByText := true, laidKinds := [.data, .pinned], laidTests := true, laidLooks := .later }
def FnMissingOfUptoCardSaid : Prop := Claim7.holds Tryz.pinned (.plain (OpenSpec.upto fnMissingOfSpec)) fnMissingOfUptoCard

/-- THE SECOND FORM's CARD OF 'laws.FnRingsOf'. -/
def fnRingsOfUptoCard : Claim7 := { stood := { row := fnRingsOfUptoRow, standIns := [], harness := (true, "1c2eba818e10eb4cb3a3ebb6b2ca8991701bad3b7e7e37954f9ffd75d14ec2ba"), looks := false }, kinds := [], alts := [], laidByText := true, laidKinds := [.data, .pinned], laidTests := true, laidLooks := .later }
def FnRingsOfUptoCardSaid : Prop := Claim7.holds Tryz.pinned (.plain (OpenSpec.upto fnRingsOfSpec)) fnRingsOfUptoCard

/-- THE SECOND FORM's CARD OF 'laws.FnUsersOf'. -/
def fnUsersOfUptoCard : Claim7 := { stood := { row := fnUsersOfUptoRow, standIns := [], harness := (true, "1c2eba818e10eb4cb3a3ebb6b2ca8991701bad3b7e7e37954f9ffd75d14ec2ba"), looks := false }, kinds := [], alts := [], laidByText := true, laidKinds := [.data, .pinned], laidTests := true, laidLooks := .later }
def FnUsersOfUptoCardSaid : Prop := Claim7.holds Tryz.pinned (.plain (OpenSpec.upto fnUsersOfSpec)) fnUsersOfUptoCard

/-- THE SECOND FORM's CARD OF 'laws.FnExactReachOf'. -/
def fnExactReachOfUptoCard : Claim7 := { stood := { row := fnExactReachOfUptoRow, standIns := [], harness := (true, "1c2eba818e10eb4cb3a3ebb6b2ca8991701bad3b7e7e37954f9ffd75d14ec2ba"), looks := false }, kinds := [], alts := [], laidByText := true, laidKinds := [.data, .pinned], laidTests := true, laidLooks := .later }
def FnExactReachOfUptoCardSaid : Prop := Claim7.holds Tryz.pinned (.plain (OpenSpec.upto fnExactReachOfSpec)) fnExactReachOfUptoCard

/-- THE SECOND FORM's CARD OF 'laws.FnExactMissingOf'. -/
def fnExactMissingOfUptoCard : Claim7 := { stood := { row := fnExactMissingOfUptoRow, standIns := [], harness := (true, "1c2eba818e10eb4cb3a3ebb6b2ca8991701bad3b7e7e37954f9ffd75d14ec2ba"), looks := false }, kinds := [], alts := [], laidByText := true, laidKinds := [.data, .pinned], laidTests := true, laidLooks := .later }
def FnExactMissingOfUptoCardSaid : Prop := Claim7.holds Tryz.pinned (.plain (OpenSpec.upto fnExactMissingOfSpec)) fnExactMissingOfUptoCard

/-- THE SECOND FORM's CARD OF 'laws.FnExactRingsOf'. -/
def fnExactRingsOfUptoCard : Claim7 := { stood := { row := fnExactRingsOfUptoRow, standIns := [], harness := (true, "1c2eba818e10eb4cb3a3ebb6b2ca8991701bad3b7e7e37954f9ffd75d14ec2ba"), looks := false }, kinds := [], alts := [], laidByText := true, laidKinds := [.data, .pinned], laidTests := true, laidLooks := .later }
def FnExactRingsOfUptoCardSaid : Prop := Claim7.holds Tryz.pinned (.plain (OpenSpec.upto fnExactRingsOfSpec)) fnExactRingsOfUptoCard

/-- THE SECOND FORM's CARD OF 'laws.FnExactUsersOf'. -/
def fnExactUsersOfUptoCard : Claim7 := { stood := { row := fnExactUsersOfUptoRow, standIns := [], harness := (true, "1c2eba818e10eb4cb3a3ebb6b2ca8991701bad3b7e7e37954f9ffd75d14ec2ba"), looks := false }, kinds := [], alts := [], laidByText := true, laidKinds := [.data, .pinned], laidTests := true, laidLooks := .later }
def FnExactUsersOfUptoCardSaid : Prop := Claim7.holds Tryz.pinned (.plain (OpenSpec.upto fnExactUsersOfSpec)) fnExactUsersOfUptoCard
end Rows
end Go.Proofs.YtbnibckkfknpkaaGreatDoor
