/-
  DERIVED. GIVEN WITH THE SEED: THE CARDS: each row of YtbohmfnjgjijdaaGreatDoorRows.lean that lists a variable, with what it lists TIED to the program's text (the seventh form; the later family's looks); each row that meets fmt, with fmt's text TOLD by the authors' own Lean function (tested against real Go, not proved from fmt's source: count such statements apart). THE CARD IS WHAT COUNTS. Prove the row's statement (the work); the ties are given (YtbohmfnjgjijdaaGreatDoorTie.lean); close each card by the builder's one call (the guide's Derived/Test/ToyasCard.lean, 'card_holds'). Laid BY PROGRAM, IN A SANDBOX (cutbox-door.mjs). By AI agents, Wed Nov 11 2026. No macro, syntax, notation, axiom, sorry.
-/
import Derived.Test.YtbohmfnjgjijdaaGreatDoorRows
import GoSem.ClaimSeven
namespace Go.Proofs.YtbohmfnjgjijdaaGreatDoor
namespace Rows

/-- THE TIED CARD OF 'laws.FnExactDoWorks'. -/
def fnExactDoWorksCard : Claim7 := { stood := { row := fnExactDoWorksRow, standIns := [], harness := (true, "dd73f50a44ad101f4308eba804c5d617f02044ce40e96e4d1c7191fd07ede1b1"), looks := false }, kinds := [], alts := [], laidByText := true, laidKinds := [.data], laidTests := true, laidLooks := .later }
def FnExactDoWorksCardSaid : Prop := Claim7.holds Tryz.pinned (.plain (OpenSpec.ofChange fnExactDoWorksSpec)) fnExactDoWorksCard

/-- THE TIED CARD OF 'laws.FnHouses'. -/
def fnHousesCard : Claim7 := { stood := { row := fnHousesRow, standIns := [], harness := (true, "dd73f50a44ad101f4308eba804c5d617f02044ce40e96e4d1c7191fd07ede1b1"), looks := false }, kinds := [], alts := [], laidByText := true, laidKinds := [.data], laidTests := true, laidLooks := .later }
def FnHousesCardSaid : Prop := Claim7.holds Tryz.pinned (.plain (OpenSpec.ofChange fnHousesSpec)) fnHousesCard

/-- THE SECOND FORM's CARD OF 'laws.FnExactDoWorks'. -/
def fnExactDoWorksUptoCard : Claim7 := { stood := { row := fnExactDoWorksUptoRow, standIns := [], harness := (true, "dd73f50a44ad101f4308eba804c5d617f02044ce40e96e4d1c7191fd07ede1b1"), looks := false }, kinds := [], alts := [], laidByText := true, laidKinds := [.data], laidTests := true, laidLooks := .later }
def FnExactDoWorksUptoCardSaid : Prop := Claim7.holds Tryz.pinned (.plain (OpenSpec.upto fnExactDoWorksSpec)) fnExactDoWorksUptoCard

/-- THE SECOND FORM's CARD OF 'laws.FnHouses'. -/
def fnHousesUptoCard : Claim7 := { stood := { row := fnHousesUptoRow, standIns := [], harness := (true, "dd73f50a44ad101f4308eba804c5d617f02044ce40e96e4d1c7191fd07ede1b1"), looks := false }, kinds := [], alts := [], laidByText := true, laidKinds := [.data], laidTests := true, laidLooks := .later }
def FnHousesUptoCardSaid : Prop := Claim7.holds Tryz.pinned (.plain (OpenSpec.upto fnHousesSpec)) fnHousesUptoCard
end Rows
end Go.Proofs.YtbohmfnjgjijdaaGreatDoor
