/-
  DERIVED. GIVEN WITH THE SEED: THE CARDS: each row of YtohmonfaabofaaaDoorRows.lean that lists a variable, with what it lists TIED to the program's text (the seventh form; the later family's looks); each row that meets fmt, with fmt's text TOLD by the authors' own Lean function (tested against real Go, not proved from fmt's source: count such statements apart). THE CARD IS WHAT COUNTS. Prove the row's statement (the work); the ties are given (YtohmonfaabofaaaDoorTie.lean); close each card by the builder's one call (the guide's Derived/Test/ToyasCard.lean, 'card_holds'). Laid BY PROGRAM, IN A SANDBOX (cutbox-door.mjs). By AI agents, Wed Nov 11 2026. No macro, syntax, notation, axiom, sorry.
-/
import Derived.Test.YtohmonfaabofaaaDoorRows
import GoSem.ClaimSeven
namespace Go.Proofs.YtohmonfaabofaaaDoor
namespace Rows

/-- THE TIED CARD OF 'laws.FnExactLeastStands'. -/
def fnExactLeastStandsCard : Claim7 := { stood := { row := fnExactLeastStandsRow, standIns := [], harness := (true, "111105b9ab8640f34bc709da643e750bf7462294e407103b9f65c7f905921bc5"), looks := false }, kinds := [], alts := [], laidByText := true, laidKinds := [.data], laidTests := true, laidLooks := .later }
def FnExactLeastStandsCardSaid : Prop := Claim7.holds Tryd.pinned (.plain (OpenSpec.ofChange fnExactLeastStandsSpec)) fnExactLeastStandsCard

/-- THE TIED CARD OF 'laws.FnExactBestArrival'. -/
def fnExactBestArrivalCard : Claim7 := { stood := { row := fnExactBestArrivalRow, standIns := [], harness := (true, "111105b9ab8640f34bc709da643e750bf7462294e407103b9f65c7f905921bc5"), looks := false }, kinds := [], alts := [], laidByText := true, laidKinds := [.data], laidTests := true, laidLooks := .later }
def FnExactBestArrivalCardSaid : Prop := Claim7.holds Tryd.pinned (.plain (OpenSpec.ofChange fnExactBestArrivalSpec)) fnExactBestArrivalCard

/-- THE TIED CARD OF 'laws.FnTheatre'. -/
def fnTheatreCard : Claim7 := { stood := { row := fnTheatreRow, standIns := [], harness := (true, "111105b9ab8640f34bc709da643e750bf7462294e407103b9f65c7f905921bc5"), looks := false }, kinds := [], alts := [], laidByText := true, laidKinds := [.data], laidTests := true, laidLooks := .later }
def FnTheatreCardSaid : Prop := Claim7.holds Tryd.pinned (.plain (OpenSpec.ofChange fnTheatreSpec)) fnTheatreCard

/-- THE SECOND FORM's CARD OF 'laws.FnExactLeastStands'. -/
def fnExactLeastStandsUptoCard : Claim7 := { stood := { row := fnExactLeastStandsUptoRow, standIns := [], harness := (true, "111105b9ab8640f34bc709da643e750bf7462294e407103b9f65c7f905921bc5"), looks := false }, kinds := [], alts := [], laidByText := true, laidKinds := [.data], laidTests := true, laidLooks := .later }
def FnExactLeastStandsUptoCardSaid : Prop := Claim7.holds Tryd.pinned (.plain (OpenSpec.upto fnExactLeastStandsSpec)) fnExactLeastStandsUptoCard

/-- THE SECOND FORM's CARD OF 'laws.FnExactBestArrival'. -/
def fnExactBestArrivalUptoCard : Claim7 := { stood := { row := fnExactBestArrivalUptoRow, standIns := [], harness := (true, "111105b9ab8640f34bc709da643e750bf7462294e407103b9f65c7f905921bc5"), looks := false }, kinds := [], alts := [], laidByText := true, laidKinds := [.data], laidTests := true, laidLooks := .later }
def FnExactBestArrivalUptoCardSaid : Prop := Claim7.holds Tryd.pinned (.plain (OpenSpec.upto fnExactBestArrivalSpec)) fnExactBestArrivalUptoCard

/-- THE SECOND FORM's CARD OF 'laws.FnTheatre'. -/
def fnTheatreUptoCard : Claim7 := { stood := { row := fnTheatreUptoRow, standIns := [], harness := (true, "111105b9ab8640f34bc709da643e750bf7462294e407103b9f65c7f905921bc5"), looks := false }, kinds := [], alts := [], laidByText := true, laidKinds := [.data], laidTests := true, laidLooks := .later }
def FnTheatreUptoCardSaid : Prop := Claim7.holds Tryd.pinned (.plain (OpenSpec.upto fnTheatreSpec)) fnTheatreUptoCard
end Rows
end Go.Proofs.YtohmonfaabofaaaDoor
