/-
  No cell of these rows narrows 'for every input' (looked for: loops, veiled, ifaces, maps, wideKeys, modest, calm, conditions, laid).
  DERIVED. THE GIVEN ROWS OF THIS SEAT. 10 by the template 'for every input the law returns true; each argument reads behind the call as it read before'; 0 by the template 'total and deterministic' (their statements: YtgcgmlbjklkkjaaTotals.lean).
  GIVEN WITH THE SEED: the statements are not yours to turn. If you find one false, say at which input.
  Laid BY PROGRAM, IN A SANDBOX (cutbox-rows.mjs): the forced cells as the released guide's own fill.sh prints them over the translation 54039acf751a3ace… (all of the seat's roots in one cut). By AI agents, Wed Nov 11 2026. No macro, syntax, notation, axiom, sorry.
-/
import Derived.Test.YtgcgmlbjklkkjaaChecked
import GoSem.Claim
import GoSem.ClaimJoined
import GoSem.ClaimMapViews
import Derived.JoinedTies
import Derived.KernelRfl
namespace Go.Proofs.Ytgcgmlbjklkkjaa
/- THE CELL 'sum', in the pinned program and in every row, IS THE sha256 OF THE DUMP (.gsa) THAT YtgcgmlbjklkkjaaProg.lean LOADS. Nothing in Lean hashes anything: it is a label: what it is worth is what the hold of that sum in a sandbox is worth. -/
noncomputable def Try.pinned : Pinned := { name := "ytgcgmlbjklkkjaa", sum := "54039acf751a3ace1834c0c2292d64624c5f803bd5ce364234c1e599912c1e68", checked := Try.checked }
namespace Rows
def none {H : Type} : Left H := { results := [], args := [] }

/-- 'laws.FnExactLineNumbers': WHATEVER THE INPUT: true; the input reads as it did. -/
def fnExactLineNumbersSpec : ChangeSpec := { name := "fnExactLineNumbers", fn := fun _ => fun
  | [d] => { results := [.lit (.bool true)], args := [d] }
  | _ => none }
def fnExactLineNumbersRow : OpenClaim := { program := "ytgcgmlbjklkkjaa", sum := "54039acf751a3ace1834c0c2292d64624c5f803bd5ce364234c1e599912c1e68", func := "loop.example/g01167/laws.FnExactLineNumbers", spec := "fnExactLineNumbers", apart := false }
def FnExactLineNumbersSaid : Prop := fnExactLineNumbersRow.holds Try.pinned (OpenSpec.ofChange fnExactLineNumbersSpec)

/-- ITS FALSE NEIGHBOUR: 'it returns false'. Refute it at one input. -/
def fnExactLineNumbersWrong : ChangeSpec := { name := "fnExactLineNumbers", fn := fun _ => fun
  | [d] => { results := [.lit (.bool false)], args := [d] }
  | _ => none }
def FnExactLineNumbersWrongFalsely : Prop := fnExactLineNumbersRow.holds Try.pinned (OpenSpec.ofChange fnExactLineNumbersWrong)

/-- 'laws.FnExactGameMoves': WHATEVER THE INPUT: true; the input reads as it did. -/
def fnExactGameMovesSpec : ChangeSpec := { name := "fnExactGameMoves", fn := fun _ => fun
  | [d1, d2] => { results := [.lit (.bool true)], args := [d1, d2] }
  | _ => none }
def fnExactGameMovesRow : OpenClaim := { program := "ytgcgmlbjklkkjaa", sum := "54039acf751a3ace1834c0c2292d64624c5f803bd5ce364234c1e599912c1e68", func := "loop.example/g01167/laws.FnExactGameMoves", spec := "fnExactGameMoves", apart := false }
def FnExactGameMovesSaid : Prop := fnExactGameMovesRow.holds Try.pinned (OpenSpec.ofChange fnExactGameMovesSpec)

/-- ITS FALSE NEIGHBOUR: 'it returns false'. Refute it at one input. -/
def fnExactGameMovesWrong : ChangeSpec := { name := "fnExactGameMoves", fn := fun _ => fun
  | [d1, d2] => { results := [.lit (.bool false)], args := [d1, d2] }
  | _ => none }
def FnExactGameMovesWrongFalsely : Prop := fnExactGameMovesRow.holds Try.pinned (OpenSpec.ofChange fnExactGameMovesWrong)

/-- 'laws.FnExactFirstWith': WHATEVER THE INPUT: true; the input reads as it did. -/
def fnExactFirstWithSpec : ChangeSpec := { name := "fnExactFirstWith", fn := fun _ => fun
  | [d1, d2, d3] => { results := [.lit (.bool true)], args := [d1, d2, d3] }
  | _ => none }
def fnExactFirstWithRow : OpenClaim := { program := "ytgcgmlbjklkkjaa", sum := "54039acf751a3ace1834c0c2292d64624c5f803bd5ce364234c1e599912c1e68", func := "loop.example/g01167/laws.FnExactFirstWith", spec := "fnExactFirstWith", apart := false }
def FnExactFirstWithSaid : Prop := fnExactFirstWithRow.holds Try.pinned (OpenSpec.ofChange fnExactFirstWithSpec)

/-- ITS FALSE NEIGHBOUR: 'it returns false'. Refute it at one input. -/
def fnExactFirstWithWrong : ChangeSpec := { name := "fnExactFirstWith", fn := fun _ => fun
  | [d1, d2, d3] => { results := [.lit (.bool false)], args := [d1, d2, d3] }
  | _ => none }
def FnExactFirstWithWrongFalsely : Prop := fnExactFirstWithRow.holds Try.pinned (OpenSpec.ofChange fnExactFirstWithWrong)

/-- 'laws.FnExactReverseWon': WHATEVER THE INPUT: true; the input reads as it did. -/
def fnExactReverseWonSpec : ChangeSpec := { name := "fnExactReverseWon", fn := fun _ => fun
  | [d1, d2] => { results := [.lit (.bool true)], args := [d1, d2] }
  | _ => none }
def fnExactReverseWonRow : OpenClaim := { program := "ytgcgmlbjklkkjaa", sum := "54039acf751a3ace1834c0c2292d64624c5f803bd5ce364234c1e599912c1e68", func := "loop.example/g01167/laws.FnExactReverseWon", spec := "fnExactReverseWon", unfollowed := true, recurses := true, apart := false }
def FnExactReverseWonSaid : Prop := fnExactReverseWonRow.holds Try.pinned (OpenSpec.ofChange fnExactReverseWonSpec)

/-- ITS FALSE NEIGHBOUR: 'it returns false'. Refute it at one input. -/
def fnExactReverseWonWrong : ChangeSpec := { name := "fnExactReverseWon", fn := fun _ => fun
  | [d1, d2] => { results := [.lit (.bool false)], args := [d1, d2] }
  | _ => none }
def FnExactReverseWonWrongFalsely : Prop := fnExactReverseWonRow.holds Try.pinned (OpenSpec.ofChange fnExactReverseWonWrong)

/-- 'laws.FnExactLongestPlay': WHATEVER THE INPUT: true; the input reads as it did. -/
def fnExactLongestPlaySpec : ChangeSpec := { name := "fnExactLongestPlay", fn := fun _ => fun
  | [d1, d2] => { results := [.lit (.bool true)], args := [d1, d2] }
  | _ => none }
def fnExactLongestPlayRow : OpenClaim := { program := "ytgcgmlbjklkkjaa", sum := "54039acf751a3ace1834c0c2292d64624c5f803bd5ce364234c1e599912c1e68", func := "loop.example/g01167/laws.FnExactLongestPlay", spec := "fnExactLongestPlay", apart := false }
def FnExactLongestPlaySaid : Prop := fnExactLongestPlayRow.holds Try.pinned (OpenSpec.ofChange fnExactLongestPlaySpec)

/-- ITS FALSE NEIGHBOUR: 'it returns false'. Refute it at one input. -/
def fnExactLongestPlayWrong : ChangeSpec := { name := "fnExactLongestPlay", fn := fun _ => fun
  | [d1, d2] => { results := [.lit (.bool false)], args := [d1, d2] }
  | _ => none }
def FnExactLongestPlayWrongFalsely : Prop := fnExactLongestPlayRow.holds Try.pinned (OpenSpec.ofChange fnExactLongestPlayWrong)

/-- 'laws.FnExactGameNumber': WHATEVER THE INPUT: true; the input reads as it did. -/
def fnExactGameNumberSpec : ChangeSpec := { name := "fnExactGameNumber", fn := fun _ => fun
  | [d1, d2] => { results := [.lit (.bool true)], args := [d1, d2] }
  | _ => none }
def fnExactGameNumberRow : OpenClaim := { program := "ytgcgmlbjklkkjaa", sum := "54039acf751a3ace1834c0c2292d64624c5f803bd5ce364234c1e599912c1e68", func := "loop.example/g01167/laws.FnExactGameNumber", spec := "fnExactGameNumber", apart := false }
def FnExactGameNumberSaid : Prop := fnExactGameNumberRow.holds Try.pinned (OpenSpec.ofChange fnExactGameNumberSpec)

/-- ITS FALSE NEIGHBOUR: 'it returns false'. Refute it at one input. -/
def fnExactGameNumberWrong : ChangeSpec := { name := "fnExactGameNumber", fn := fun _ => fun
  | [d1, d2] => { results := [.lit (.bool false)], args := [d1, d2] }
  | _ => none }
def FnExactGameNumberWrongFalsely : Prop := fnExactGameNumberRow.holds Try.pinned (OpenSpec.ofChange fnExactGameNumberWrong)

/-- 'laws.FnExactIsWon': WHATEVER THE INPUT: true; the input reads as it did. -/
def fnExactIsWonSpec : ChangeSpec := { name := "fnExactIsWon", fn := fun _ => fun
  | [d1, d2] => { results := [.lit (.bool true)], args := [d1, d2] }
  | _ => none }
def fnExactIsWonRow : OpenClaim := { program := "ytgcgmlbjklkkjaa", sum := "54039acf751a3ace1834c0c2292d64624c5f803bd5ce364234c1e599912c1e68", func := "loop.example/g01167/laws.FnExactIsWon", spec := "fnExactIsWon", apart := false }
def FnExactIsWonSaid : Prop := fnExactIsWonRow.holds Try.pinned (OpenSpec.ofChange fnExactIsWonSpec)

/-- ITS FALSE NEIGHBOUR: 'it returns false'. Refute it at one input. -/
def fnExactIsWonWrong : ChangeSpec := { name := "fnExactIsWon", fn := fun _ => fun
  | [d1, d2] => { results := [.lit (.bool false)], args := [d1, d2] }
  | _ => none }
def FnExactIsWonWrongFalsely : Prop := fnExactIsWonRow.holds Try.pinned (OpenSpec.ofChange fnExactIsWonWrong)

/-- 'laws.FnExactWinMoves': WHATEVER THE INPUT: true; the input reads as it did. -/
def fnExactWinMovesSpec : ChangeSpec := { name := "fnExactWinMoves", fn := fun _ => fun
  | [d1, d2] => { results := [.lit (.bool true)], args := [d1, d2] }
  | _ => none }
def fnExactWinMovesRow : OpenClaim := { program := "ytgcgmlbjklkkjaa", sum := "54039acf751a3ace1834c0c2292d64624c5f803bd5ce364234c1e599912c1e68", func := "loop.example/g01167/laws.FnExactWinMoves", spec := "fnExactWinMoves", apart := false }
def FnExactWinMovesSaid : Prop := fnExactWinMovesRow.holds Try.pinned (OpenSpec.ofChange fnExactWinMovesSpec)

/-- ITS FALSE NEIGHBOUR: 'it returns false'. Refute it at one input. -/
def fnExactWinMovesWrong : ChangeSpec := { name := "fnExactWinMoves", fn := fun _ => fun
  | [d1, d2] => { results := [.lit (.bool false)], args := [d1, d2] }
  | _ => none }
def FnExactWinMovesWrongFalsely : Prop := fnExactWinMovesRow.holds Try.pinned (OpenSpec.ofChange fnExactWinMovesWrong)

/-- 'laws.FnExactBestPlay': WHATEVER THE INPUT: true; the input reads as it did. -/
def fnExactBestPlaySpec : ChangeSpec := { name := "fnExactBestPlay", fn := fun _ => fun
  | [d1, d2] => { results := [.lit (.bool true)], args := [d1, d2] }
  | _ => none }
def fnExactBestPlayRow : OpenClaim := { program := "ytgcgmlbjklkkjaa", sum := "54039acf751a3ace1834c0c2292d64624c5f803bd5ce364234c1e599912c1e68", func := "loop.example/g01167/laws.FnExactBestPlay", spec := "fnExactBestPlay", apart := false }
def FnExactBestPlaySaid : Prop := fnExactBestPlayRow.holds Try.pinned (OpenSpec.ofChange fnExactBestPlaySpec)

/-- ITS FALSE NEIGHBOUR: 'it returns false'. Refute it at one input. -/
def fnExactBestPlayWrong : ChangeSpec := { name := "fnExactBestPlay", fn := fun _ => fun
  | [d1, d2] => { results := [.lit (.bool false)], args := [d1, d2] }
  | _ => none }
def FnExactBestPlayWrongFalsely : Prop := fnExactBestPlayRow.holds Try.pinned (OpenSpec.ofChange fnExactBestPlayWrong)

/-- 'laws.FnGameLines': WHATEVER THE INPUT: true; the input reads as it did. -/
def fnGameLinesSpec : ChangeSpec := { name := "fnGameLines", fn := fun _ => fun
  | [d] => { results := [.lit (.bool true)], args := [d] }
  | _ => none }
def fnGameLinesRow : OpenClaim := { program := "ytgcgmlbjklkkjaa", sum := "54039acf751a3ace1834c0c2292d64624c5f803bd5ce364234c1e599912c1e68", func := "loop.example/g01167/laws.FnGameLines", spec := "fnGameLines", apart := false }
def FnGameLinesSaid : Prop := fnGameLinesRow.holds Try.pinned (OpenSpec.ofChange fnGameLinesSpec)

/-- ITS FALSE NEIGHBOUR: 'it returns false'. Refute it at one input. -/
def fnGameLinesWrong : ChangeSpec := { name := "fnGameLines", fn := fun _ => fun
  | [d] => { results := [.lit (.bool false)], args := [d] }
  | _ => none }
def FnGameLinesWrongFalsely : Prop := fnGameLinesRow.holds Try.pinned (OpenSpec.ofChange fnGameLinesWrong)

/- THE SECOND FORM. 'bulk': how many values and letters a reading holds, each counted each time it is reached (what is shared counts as often as it is met; a slice's spare places count too). A statement '..UptoSaid' is the law's where the arguments, and the package variables that the reading takes, are together of bulk at most 1048576: NARROWER than '..Said'. Prove '..Said' where nothing that the law and all that it calls make is longer than what came in: it says more and counts as full. Else prove '..UptoSaid'. A law counts once. -/
mutual
def uptoBulk {H : Type} : DataW H → Nat
  | .lit (.string bytes) => bytes.length + 1
  | .lit _ => 1
  | .nil => 1
  | .ptr d => uptoBulk d + 1
  | .slice elems spare => uptoBulkAll elems + uptoBulkAll spare + 1
  | .agg parts => uptoBulkAll parts + 1
  | .iface _ d => uptoBulk d + 1
  | .map entries => uptoBulkEntries entries + 1
  | .held _ => 1
def uptoBulkAll {H : Type} : List (DataW H) → Nat
  | [] => 0
  | d :: r => uptoBulk d + uptoBulkAll r
def uptoBulkEntries {H : Type} : List (Lit × DataW H) → Nat
  | [] => 0
  | x :: r => uptoBulkEntry x + uptoBulkEntries r
def uptoBulkEntry {H : Type} : Lit × DataW H → Nat
  | (.string bytes, d) => bytes.length + uptoBulk d + 1
  | (_, d) => uptoBulk d + 1
 end
def uptoSmall : (H : Type) → List (DataW H) → Bool := fun _ ds => decide (uptoBulkAll ds ≤ 1048576)
def OpenSpec.upto (s : _root_.Go.ChangeSpec) : _root_.Go.OpenSpec := { _root_.Go.OpenSpec.ofChange s with cond := some uptoSmall }

/-- 'laws.FnExactLineNumbers', WHERE WHAT IT READS IS OF BULK AT MOST 1048576: true; the input reads as it did. -/
def fnExactLineNumbersUptoRow : OpenClaim := { program := "ytgcgmlbjklkkjaa", sum := "54039acf751a3ace1834c0c2292d64624c5f803bd5ce364234c1e599912c1e68", func := "loop.example/g01167/laws.FnExactLineNumbers", spec := "fnExactLineNumbers", apart := false, narrowed := true }
def FnExactLineNumbersUptoSaid : Prop := fnExactLineNumbersUptoRow.holds Try.pinned (OpenSpec.upto fnExactLineNumbersSpec)

/-- 'laws.FnExactGameMoves', WHERE WHAT IT READS IS OF BULK AT MOST 1048576: true; the input reads as it did. -/
def fnExactGameMovesUptoRow : OpenClaim := { program := "ytgcgmlbjklkkjaa", sum := "54039acf751a3ace1834c0c2292d64624c5f803bd5ce364234c1e599912c1e68", func := "loop.example/g01167/laws.FnExactGameMoves", spec := "fnExactGameMoves", apart := false, narrowed := true }
def FnExactGameMovesUptoSaid : Prop := fnExactGameMovesUptoRow.holds Try.pinned (OpenSpec.upto fnExactGameMovesSpec)

/-- 'laws.FnExactFirstWith', WHERE WHAT IT READS IS OF BULK AT MOST 1048576: true; the input reads as it did. -/
def fnExactFirstWithUptoRow : OpenClaim := { program := "ytgcgmlbjklkkjaa", sum := "54039acf751a3ace1834c0c2292d64624c5f803bd5ce364234c1e599912c1e68", func := "loop.example/g01167/laws.FnExactFirstWith", spec := "fnExactFirstWith", apart := false, narrowed := true }
def FnExactFirstWithUptoSaid : Prop := fnExactFirstWithUptoRow.holds Try.pinned (OpenSpec.upto fnExactFirstWithSpec)

/-- 'laws.FnExactReverseWon', WHERE WHAT IT READS IS OF BULK AT MOST 1048576: true; the input reads as it did. -/
def fnExactReverseWonUptoRow : OpenClaim := { program := "ytgcgmlbjklkkjaa", sum := "54039acf751a3ace1834c0c2292d64624c5f803bd5ce364234c1e599912c1e68", func := "loop.example/g01167/laws.FnExactReverseWon", spec := "fnExactReverseWon", unfollowed := true, recurses := true, apart := false, narrowed := true }
def FnExactReverseWonUptoSaid : Prop := fnExactReverseWonUptoRow.holds Try.pinned (OpenSpec.upto fnExactReverseWonSpec)

/-- 'laws.FnExactLongestPlay', WHERE WHAT IT READS IS OF BULK AT MOST 1048576: true; the input reads as it did. -/
def fnExactLongestPlayUptoRow : OpenClaim := { program := "ytgcgmlbjklkkjaa", sum := "54039acf751a3ace1834c0c2292d64624c5f803bd5ce364234c1e599912c1e68", func := "loop.example/g01167/laws.FnExactLongestPlay", spec := "fnExactLongestPlay", apart := false, narrowed := true }
def FnExactLongestPlayUptoSaid : Prop := fnExactLongestPlayUptoRow.holds Try.pinned (OpenSpec.upto fnExactLongestPlaySpec)

/-- 'laws.FnExactGameNumber', WHERE WHAT IT READS IS OF BULK AT MOST 1048576: true; the input reads as it did. -/
def fnExactGameNumberUptoRow : OpenClaim := { program := "ytgcgmlbjklkkjaa", sum := "54039acf751a3ace1834c0c2292d64624c5f803bd5ce364234c1e599912c1e68", func := "loop.example/g01167/laws.FnExactGameNumber", spec := "fnExactGameNumber", apart := false, narrowed := true }
def FnExactGameNumberUptoSaid : Prop := fnExactGameNumberUptoRow.holds Try.pinned (OpenSpec.upto fnExactGameNumberSpec)

/-- 'laws.FnExactIsWon', WHERE WHAT IT READS IS OF BULK AT MOST 1048576: true; the input reads as it did. -/
def fnExactIsWonUptoRow : OpenClaim := { program := "ytgcgmlbjklkkjaa", sum := "54039acf751a3ace1834c0c2292d64624c5f803bd5ce364234c1e599912c1e68", func := "loop.example/g01167/laws.FnExactIsWon", spec := "fnExactIsWon", apart := false, narrowed := true }
def FnExactIsWonUptoSaid : Prop := fnExactIsWonUptoRow.holds Try.pinned (OpenSpec.upto fnExactIsWonSpec)

/-- 'laws.FnExactWinMoves', WHERE WHAT IT READS IS OF BULK AT MOST 1048576: true; the input reads as it did. -/
def fnExactWinMovesUptoRow : OpenClaim := { program := "ytgcgmlbjklkkjaa", sum := "54039acf751a3ace1834c0c2292d64624c5f803bd5ce364234c1e599912c1e68", func := "loop.example/g01167/laws.FnExactWinMoves", spec := "fnExactWinMoves", apart := false, narrowed := true }
def FnExactWinMovesUptoSaid : Prop := fnExactWinMovesUptoRow.holds Try.pinned (OpenSpec.upto fnExactWinMovesSpec)

/-- 'laws.FnExactBestPlay', WHERE WHAT IT READS IS OF BULK AT MOST 1048576: true; the input reads as it did. -/
def fnExactBestPlayUptoRow : OpenClaim := { program := "ytgcgmlbjklkkjaa", sum := "54039acf751a3ace1834c0c2292d64624c5f803bd5ce364234c1e599912c1e68", func := "loop.example/g01167/laws.FnExactBestPlay", spec := "fnExactBestPlay", apart := false, narrowed := true }
def FnExactBestPlayUptoSaid : Prop := fnExactBestPlayUptoRow.holds Try.pinned (OpenSpec.upto fnExactBestPlaySpec)

/-- 'laws.FnGameLines', WHERE WHAT IT READS IS OF BULK AT MOST 1048576: true; the input reads as it did. -/
def fnGameLinesUptoRow : OpenClaim := { program := "ytgcgmlbjklkkjaa", sum := "54039acf751a3ace1834c0c2292d64624c5f803bd5ce364234c1e599912c1e68", func := "loop.example/g01167/laws.FnGameLines", spec := "fnGameLines", apart := false, narrowed := true }
def FnGameLinesUptoSaid : Prop := fnGameLinesUptoRow.holds Try.pinned (OpenSpec.upto fnGameLinesSpec)

end Rows
end Go.Proofs.Ytgcgmlbjklkkjaa
