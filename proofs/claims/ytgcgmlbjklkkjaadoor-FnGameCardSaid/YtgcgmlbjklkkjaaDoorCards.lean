/-
  DERIVED. GIVEN WITH THE SEED: THE CARDS: each row of YtgcgmlbjklkkjaaDoorRows.lean that lists a variable, with what it lists TIED to the program's text (the seventh form; the later family's looks); each row that meets fmt, with fmt's text TOLD by the authors' own Lean function (tested against real Go, not proved from fmt's source: count such statements apart). THE CARD IS WHAT COUNTS. Prove the row's statement (the work); the ties are given (YtgcgmlbjklkkjaaDoorTie.lean); close each card by the builder's one call (the guide's Derived/Test/ToyasCard.lean, 'card_holds'). Laid BY PROGRAM, IN A SANDBOX (cutbox-door.mjs). By AI agents, Wed Nov 11 2026. No macro, syntax, notation, axiom, sorry.
-/
import Derived.Test.YtgcgmlbjklkkjaaDoorRows
import GoSem.ClaimSeven
namespace Go.Proofs.YtgcgmlbjklkkjaaDoor
namespace Rows

/-- THE TIED CARD OF 'laws.FnExactMakeMove'. -/
def fnExactMakeMoveCard : Claim7 := { stood := { row := fnExactMakeMoveRow, standIns := [], harness := (true, "0e70c10b6a4a4fa14eabb11664a50c7e6a8fbf1a7ce756bb1a687ec2cfb6b417"), looks := false }, kinds := [], alts := [], laidByText := true, laidKinds := [.data], laidTests := true, laidLooks := .later }
def FnExactMakeMoveCardSaid : Prop := Claim7.holds Tryd.pinned (.plain (OpenSpec.ofChange fnExactMakeMoveSpec)) fnExactMakeMoveCard

/-- THE TIED CARD OF 'laws.FnGame'. -/
def fnGameCard : Claim7 := { stood := { row := fnGameRow, standIns := [], harness := (true, "0e70c10b6a4a4fa14eabb11664a50c7e6a8fbf1a7ce756bb1a687ec2cfb6b417"), looks := false }, kinds := [], alts := [], laidByText := true, laidKinds := [.data], laidTests := true, laidLooks := .later }
def FnGameCardSaid : Prop := Claim7.holds Tryd.pinned (.plain (OpenSpec.ofChange fnGameSpec)) fnGameCard

/-- THE SECOND FORM's CARD OF 'laws.FnExactMakeMove'. -/
def fnExactMakeMoveUptoCard : Claim7 := { stood := { row := fnExactMakeMoveUptoRow, standIns := [], harness := (true, "0e70c10b6a4a4fa14eabb11664a50c7e6a8fbf1a7ce756bb1a687ec2cfb6b417"), looks := false }, kinds := [], alts := [], laidByText := true, laidKinds := [.data], laidTests := true, laidLooks := .later }
def FnExactMakeMoveUptoCardSaid : Prop := Claim7.holds Tryd.pinned (.plain (OpenSpec.upto fnExactMakeMoveSpec)) fnExactMakeMoveUptoCard

/-- THE SECOND FORM's CARD OF 'laws.FnGame'. -/
def fnGameUptoCard : Claim7 := { stood := { row := fnGameUptoRow, standIns := [], harness := (true, "0e70c10b6a4a4fa14eabb11664a50c7e6a8fbf1a7ce756bb1a687ec2cfb6b417"), looks := false }, kinds := [], alts := [], laidByText := true, laidKinds := [.data], laidTests := true, laidLooks := .later }
def FnGameUptoCardSaid : Prop := Claim7.holds Tryd.pinned (.plain (OpenSpec.upto fnGameSpec)) fnGameUptoCard
end Rows
end Go.Proofs.YtgcgmlbjklkkjaaDoor
