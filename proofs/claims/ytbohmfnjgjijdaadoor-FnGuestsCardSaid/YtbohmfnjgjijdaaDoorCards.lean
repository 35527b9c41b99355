/-
  DERIVED. GIVEN WITH THE SEED: THE CARDS: each row of YtbohmfnjgjijdaaDoorRows.lean that lists a variable, with what it lists TIED to the program's text (the seventh form; the later family's looks); each row that meets fmt, with fmt's text TOLD by the authors' own Lean function (tested against real Go, not proved from fmt's source: count such statements apart). THE CARD IS WHAT COUNTS. Prove the row's statement (the work); the ties are given (YtbohmfnjgjijdaaDoorTie.lean); close each card by the builder's one call (the guide's Derived/Test/ToyasCard.lean, 'card_holds'). Laid BY PROGRAM, IN A SANDBOX (cutbox-door.mjs). By AI agents, Wed Nov 11 2026. No macro, syntax, notation, axiom, sorry.
-/
import Derived.Test.YtbohmfnjgjijdaaDoorRows
import GoSem.ClaimSeven
namespace Go.Proofs.YtbohmfnjgjijdaaDoor
namespace Rows

/-- THE TIED CARD OF 'laws.FnExactNewHouse'. -/
def fnExactNewHouseCard : Claim7 := { stood := { row := fnExactNewHouseRow, standIns := [], harness := (true, "84ccc376b248f46f7f1156c9e840bb9944afd015fe1a609abc2573e5b638b41b"), looks := false }, kinds := [], alts := [], laidByText := true, laidKinds := [.data], laidTests := true, laidLooks := .later }
def FnExactNewHouseCardSaid : Prop := Claim7.holds Tryd.pinned (.plain (OpenSpec.ofChange fnExactNewHouseSpec)) fnExactNewHouseCard

/-- THE TIED CARD OF 'laws.FnExactCrowdedGuests'. -/
def fnExactCrowdedGuestsCard : Claim7 := { stood := { row := fnExactCrowdedGuestsRow, standIns := [], harness := (true, "84ccc376b248f46f7f1156c9e840bb9944afd015fe1a609abc2573e5b638b41b"), looks := false }, kinds := [], alts := [], laidByText := true, laidKinds := [.data], laidTests := true, laidLooks := .later }
def FnExactCrowdedGuestsCardSaid : Prop := Claim7.holds Tryd.pinned (.plain (OpenSpec.ofChange fnExactCrowdedGuestsSpec)) fnExactCrowdedGuestsCard

/-- THE TIED CARD OF 'laws.FnExactDoWork'. -/
def fnExactDoWorkCard : Claim7 := { stood := { row := fnExactDoWorkRow, standIns := [], harness := (true, "84ccc376b248f46f7f1156c9e840bb9944afd015fe1a609abc2573e5b638b41b"), looks := false }, kinds := [], alts := [], laidByText := true, laidKinds := [.data], laidTests := true, laidLooks := .later }
def FnExactDoWorkCardSaid : Prop := Claim7.holds Tryd.pinned (.plain (OpenSpec.ofChange fnExactDoWorkSpec)) fnExactDoWorkCard

/-- THE TIED CARD OF 'laws.FnGuests'. -/
def fnGuestsCard : Claim7 := { stood := { row := fnGuestsRow, standIns := [], harness := (true, "84ccc376b248f46f7f1156c9e840bb9944afd015fe1a609abc2573e5b638b41b"), looks := false }, kinds := [], alts := [], laidByText := true, laidKinds := [.data], laidTests := true, laidLooks := .later }
def FnGuestsCardSaid : Prop := Claim7.holds Tryd.pinned (.plain (OpenSpec.ofChange fnGuestsSpec)) fnGuestsCard

/-- THE SECOND FORM's CARD OF 'laws.FnExactNewHouse'. -/
def fnExactNewHouseUptoCard : Claim7 := { stood := { row := fnExactNewHouseUptoRow, standIns := [], harness := (true, "84ccc376b248f46f7f1156c9e840bb9944afd015fe1a609abc2573e5b638b41b"), looks := false }, kinds := [], alts := [], laidByText := true, laidKinds := [.data], laidTests := true, laidLooks := .later }
def FnExactNewHouseUptoCardSaid : Prop := Claim7.holds Tryd.pinned (.plain (OpenSpec.upto fnExactNewHouseSpec)) fnExactNewHouseUptoCard

/-- THE SECOND FORM's CARD OF 'laws.FnExactCrowdedGuests'. -/
def fnExactCrowdedGuestsUptoCard : Claim7 := { stood := { row := fnExactCrowdedGuestsUptoRow, standIns := [], harness := (true, "84ccc376b248f46f7f1156c9e840bb9944afd015fe1a609abc2573e5b638b41b"), looks := false }, kinds := [], alts := [], laidByText := true, laidKinds := [.data], laidTests := true, laidLooks := .later }
def FnExactCrowdedGuestsUptoCardSaid : Prop := Claim7.holds Tryd.pinned (.plain (OpenSpec.upto fnExactCrowdedGuestsSpec)) fnExactCrowdedGuestsUptoCard

/-- THE SECOND FORM's CARD OF 'laws.FnExactDoWork'. -/
def fnExactDoWorkUptoCard : Claim7 := { stood := { row := fnExactDoWorkUptoRow, standIns := [], harness := (true, "84ccc376b248f46f7f1156c9e840bb9944afd015fe1a609abc2573e5b638b41b"), looks := false }, kinds := [], alts := [], laidByText := true, laidKinds := [.data], laidTests := true, laidLooks := .later }
def FnExactDoWorkUptoCardSaid : Prop := Claim7.holds Tryd.pinned (.plain (OpenSpec.upto fnExactDoWorkSpec)) fnExactDoWorkUptoCard

/-- THE SECOND FORM's CARD OF 'laws.FnGuests'. -/
def fnGuestsUptoCard : Claim7 := { stood := { row := fnGuestsUptoRow, standIns := [], harness := (true, "84ccc376b248f46f7f1156c9e840bb9944afd015fe1a609abc2573e5b638b41b"), looks := false }, kinds := [], alts := [], laidByText := true, laidKinds := [.data], laidTests := true, laidLooks := .later }
def FnGuestsUptoCardSaid : Prop := Claim7.holds Tryd.pinned (.plain (OpenSpec.upto fnGuestsSpec)) fnGuestsUptoCard
end Rows
end Go.Proofs.YtbohmfnjgjijdaaDoor
