/-
  No cell of these rows narrows 'for every input' (looked for: loops, veiled, ifaces, maps, wideKeys, modest, calm, conditions, laid).
  DERIVED. THE GIVEN ROWS OF THIS SEAT. 12 by the template 'for every input the law returns true; each argument reads behind the call as it read before'; 0 by the template 'total and deterministic' (their statements: YtmcgamhipilbpaaTotals.lean).
  GIVEN WITH THE SEED: the statements are not yours to turn. If you find one false, say at which input.
  Laid BY PROGRAM, IN A SANDBOX (cutbox-rows.mjs): the forced cells as the released guide's own fill.sh prints them over the translation e655f2f60101b839… (all of the seat's roots in one cut). By AI agents, Wed Nov 11 2026. No macro, syntax, notation, axiom, sorry.
-/
import Derived.Test.YtmcgamhipilbpaaChecked
import GoSem.Claim
import GoSem.ClaimJoined
import GoSem.ClaimMapViews
import Derived.JoinedTies
import Derived.KernelRfl
namespace Go.Proofs.Ytmcgamhipilbpaa
/- THE CELL 'sum', in the pinned program and in every row, IS THE sha256 OF THE DUMP (.gsa) THAT YtmcgamhipilbpaaProg.lean LOADS. Nothing in Lean hashes anything: it is a label: what it is worth is what the hold of that sum in a sandbox is worth. -/
noncomputable def Try.pinned : Pinned := { name := "ytmcgamhipilbpaa", sum := "e655f2f60101b839dda3e6b72c88f4b68065c75bc0ed23257b872d0e866faeb6", checked := Try.checked }
namespace Rows
def none {H : Type} : Left H := { results := [], args := [] }

/-- 'laws.FnExactChangeCounts': WHATEVER THE INPUT: true; the input reads as it did. -/
def fnExactChangeCountsSpec : ChangeSpec := { name := "fnExactChangeCounts", fn := fun _ => fun
  | [d] => { results := [.lit (.bool true)], args := [d] }
  | _ => none }
def fnExactChangeCountsRow : OpenClaim := { program := "ytmcgamhipilbpaa", sum := "e655f2f60101b839dda3e6b72c88f4b68065c75bc0ed23257b872d0e866faeb6", func := "loop.example/g01167/laws.FnExactChangeCounts", spec := "fnExactChangeCounts", apart := false }
def FnExactChangeCountsSaid : Prop := fnExactChangeCountsRow.holds Try.pinned (OpenSpec.ofChange fnExactChangeCountsSpec)

/-- ITS FALSE NEIGHBOUR: 'it returns false'. Refute it at one input. -/
def fnExactChangeCountsWrong : ChangeSpec := { name := "fnExactChangeCounts", fn := fun _ => fun
  | [d] => { results := [.lit (.bool false)], args := [d] }
  | _ => none }
def FnExactChangeCountsWrongFalsely : Prop := fnExactChangeCountsRow.holds Try.pinned (OpenSpec.ofChange fnExactChangeCountsWrong)

/-- 'laws.FnExactCountStands': WHATEVER THE INPUT: true; the input reads as it did. -/
def fnExactCountStandsSpec : ChangeSpec := { name := "fnExactCountStands", fn := fun _ => fun
  | [d] => { results := [.lit (.bool true)], args := [d] }
  | _ => none }
def fnExactCountStandsRow : OpenClaim := { program := "ytmcgamhipilbpaa", sum := "e655f2f60101b839dda3e6b72c88f4b68065c75bc0ed23257b872d0e866faeb6", func := "loop.example/g01167/laws.FnExactCountStands", spec := "fnExactCountStands", apart := false }
def FnExactCountStandsSaid : Prop := fnExactCountStandsRow.holds Try.pinned (OpenSpec.ofChange fnExactCountStandsSpec)

/-- ITS FALSE NEIGHBOUR: 'it returns false'. Refute it at one input. -/
def fnExactCountStandsWrong : ChangeSpec := { name := "fnExactCountStands", fn := fun _ => fun
  | [d] => { results := [.lit (.bool false)], args := [d] }
  | _ => none }
def FnExactCountStandsWrongFalsely : Prop := fnExactCountStandsRow.holds Try.pinned (OpenSpec.ofChange fnExactCountStandsWrong)

/-- 'laws.FnExactSideSwaps': WHATEVER THE INPUT: true; the input reads as it did. -/
def fnExactSideSwapsSpec : ChangeSpec := { name := "fnExactSideSwaps", fn := fun _ => fun
  | [d] => { results := [.lit (.bool true)], args := [d] }
  | _ => none }
def fnExactSideSwapsRow : OpenClaim := { program := "ytmcgamhipilbpaa", sum := "e655f2f60101b839dda3e6b72c88f4b68065c75bc0ed23257b872d0e866faeb6", func := "loop.example/g01167/laws.FnExactSideSwaps", spec := "fnExactSideSwaps", apart := false }
def FnExactSideSwapsSaid : Prop := fnExactSideSwapsRow.holds Try.pinned (OpenSpec.ofChange fnExactSideSwapsSpec)

/-- ITS FALSE NEIGHBOUR: 'it returns false'. Refute it at one input. -/
def fnExactSideSwapsWrong : ChangeSpec := { name := "fnExactSideSwaps", fn := fun _ => fun
  | [d] => { results := [.lit (.bool false)], args := [d] }
  | _ => none }
def FnExactSideSwapsWrongFalsely : Prop := fnExactSideSwapsRow.holds Try.pinned (OpenSpec.ofChange fnExactSideSwapsWrong)

/-- 'laws.FnExactBackChange': WHATEVER THE INPUT: true; the input reads as it did. -/
def fnExactBackChangeSpec : ChangeSpec := { name := "fnExactBackChange", fn := fun _ => fun
  | [d] => { results := [.lit (.bool true)], args := [d] }
  | _ => none }
def fnExactBackChangeRow : OpenClaim := { program := "ytmcgamhipilbpaa", sum := "e655f2f60101b839dda3e6b72c88f4b68065c75bc0ed23257b872d0e866faeb6", func := "loop.example/g01167/laws.FnExactBackChange", spec := "fnExactBackChange", apart := false }
def FnExactBackChangeSaid : Prop := fnExactBackChangeRow.holds Try.pinned (OpenSpec.ofChange fnExactBackChangeSpec)

/-- ITS FALSE NEIGHBOUR: 'it returns false'. Refute it at one input. -/
def fnExactBackChangeWrong : ChangeSpec := { name := "fnExactBackChange", fn := fun _ => fun
  | [d] => { results := [.lit (.bool false)], args := [d] }
  | _ => none }
def FnExactBackChangeWrongFalsely : Prop := fnExactBackChangeRow.holds Try.pinned (OpenSpec.ofChange fnExactBackChangeWrong)

/-- 'laws.FnExactFreeSwaps': WHATEVER THE INPUT: true; the input reads as it did. -/
def fnExactFreeSwapsSpec : ChangeSpec := { name := "fnExactFreeSwaps", fn := fun _ => fun
  | [d] => { results := [.lit (.bool true)], args := [d] }
  | _ => none }
def fnExactFreeSwapsRow : OpenClaim := { program := "ytmcgamhipilbpaa", sum := "e655f2f60101b839dda3e6b72c88f4b68065c75bc0ed23257b872d0e866faeb6", func := "loop.example/g01167/laws.FnExactFreeSwaps", spec := "fnExactFreeSwaps", apart := false }
def FnExactFreeSwapsSaid : Prop := fnExactFreeSwapsRow.holds Try.pinned (OpenSpec.ofChange fnExactFreeSwapsSpec)

/-- ITS FALSE NEIGHBOUR: 'it returns false'. Refute it at one input. -/
def fnExactFreeSwapsWrong : ChangeSpec := { name := "fnExactFreeSwaps", fn := fun _ => fun
  | [d] => { results := [.lit (.bool false)], args := [d] }
  | _ => none }
def FnExactFreeSwapsWrongFalsely : Prop := fnExactFreeSwapsRow.holds Try.pinned (OpenSpec.ofChange fnExactFreeSwapsWrong)

/-- 'laws.FnExactAfterSwaps': WHATEVER THE INPUT: true; the input reads as it did. -/
def fnExactAfterSwapsSpec : ChangeSpec := { name := "fnExactAfterSwaps", fn := fun _ => fun
  | [d1, d2] => { results := [.lit (.bool true)], args := [d1, d2] }
  | _ => none }
def fnExactAfterSwapsRow : OpenClaim := { program := "ytmcgamhipilbpaa", sum := "e655f2f60101b839dda3e6b72c88f4b68065c75bc0ed23257b872d0e866faeb6", func := "loop.example/g01167/laws.FnExactAfterSwaps", spec := "fnExactAfterSwaps", apart := false }
def FnExactAfterSwapsSaid : Prop := fnExactAfterSwapsRow.holds Try.pinned (OpenSpec.ofChange fnExactAfterSwapsSpec)

/-- ITS FALSE NEIGHBOUR: 'it returns false'. Refute it at one input. -/
def fnExactAfterSwapsWrong : ChangeSpec := { name := "fnExactAfterSwaps", fn := fun _ => fun
  | [d1, d2] => { results := [.lit (.bool false)], args := [d1, d2] }
  | _ => none }
def FnExactAfterSwapsWrongFalsely : Prop := fnExactAfterSwapsRow.holds Try.pinned (OpenSpec.ofChange fnExactAfterSwapsWrong)

/-- 'laws.FnExactHoleMoves': WHATEVER THE INPUT: true; the input reads as it did. -/
def fnExactHoleMovesSpec : ChangeSpec := { name := "fnExactHoleMoves", fn := fun _ => fun
  | [d] => { results := [.lit (.bool true)], args := [d] }
  | _ => none }
def fnExactHoleMovesRow : OpenClaim := { program := "ytmcgamhipilbpaa", sum := "e655f2f60101b839dda3e6b72c88f4b68065c75bc0ed23257b872d0e866faeb6", func := "loop.example/g01167/laws.FnExactHoleMoves", spec := "fnExactHoleMoves", apart := false }
def FnExactHoleMovesSaid : Prop := fnExactHoleMovesRow.holds Try.pinned (OpenSpec.ofChange fnExactHoleMovesSpec)

/-- ITS FALSE NEIGHBOUR: 'it returns false'. Refute it at one input. -/
def fnExactHoleMovesWrong : ChangeSpec := { name := "fnExactHoleMoves", fn := fun _ => fun
  | [d] => { results := [.lit (.bool false)], args := [d] }
  | _ => none }
def FnExactHoleMovesWrongFalsely : Prop := fnExactHoleMovesRow.holds Try.pinned (OpenSpec.ofChange fnExactHoleMovesWrong)

/-- 'laws.FnExactIsArrival': WHATEVER THE INPUT: true; the input reads as it did. -/
def fnExactIsArrivalSpec : ChangeSpec := { name := "fnExactIsArrival", fn := fun _ => fun
  | [d1, d2] => { results := [.lit (.bool true)], args := [d1, d2] }
  | _ => none }
def fnExactIsArrivalRow : OpenClaim := { program := "ytmcgamhipilbpaa", sum := "e655f2f60101b839dda3e6b72c88f4b68065c75bc0ed23257b872d0e866faeb6", func := "loop.example/g01167/laws.FnExactIsArrival", spec := "fnExactIsArrival", apart := false }
def FnExactIsArrivalSaid : Prop := fnExactIsArrivalRow.holds Try.pinned (OpenSpec.ofChange fnExactIsArrivalSpec)

/-- ITS FALSE NEIGHBOUR: 'it returns false'. Refute it at one input. -/
def fnExactIsArrivalWrong : ChangeSpec := { name := "fnExactIsArrival", fn := fun _ => fun
  | [d1, d2] => { results := [.lit (.bool false)], args := [d1, d2] }
  | _ => none }
def FnExactIsArrivalWrongFalsely : Prop := fnExactIsArrivalRow.holds Try.pinned (OpenSpec.ofChange fnExactIsArrivalWrong)

/-- 'laws.FnExactFirstSideSwaps': WHATEVER THE INPUT: true; the input reads as it did. -/
def fnExactFirstSideSwapsSpec : ChangeSpec := { name := "fnExactFirstSideSwaps", fn := fun _ => fun
  | [d] => { results := [.lit (.bool true)], args := [d] }
  | _ => none }
def fnExactFirstSideSwapsRow : OpenClaim := { program := "ytmcgamhipilbpaa", sum := "e655f2f60101b839dda3e6b72c88f4b68065c75bc0ed23257b872d0e866faeb6", func := "loop.example/g01167/laws.FnExactFirstSideSwaps", spec := "fnExactFirstSideSwaps", apart := false }
def FnExactFirstSideSwapsSaid : Prop := fnExactFirstSideSwapsRow.holds Try.pinned (OpenSpec.ofChange fnExactFirstSideSwapsSpec)

/-- ITS FALSE NEIGHBOUR: 'it returns false'. Refute it at one input. -/
def fnExactFirstSideSwapsWrong : ChangeSpec := { name := "fnExactFirstSideSwaps", fn := fun _ => fun
  | [d] => { results := [.lit (.bool false)], args := [d] }
  | _ => none }
def FnExactFirstSideSwapsWrongFalsely : Prop := fnExactFirstSideSwapsRow.holds Try.pinned (OpenSpec.ofChange fnExactFirstSideSwapsWrong)

/-- 'laws.FnExactLeaveStands': WHATEVER THE INPUT: true; the input reads as it did. -/
def fnExactLeaveStandsSpec : ChangeSpec := { name := "fnExactLeaveStands", fn := fun _ => fun
  | [d1, d2] => { results := [.lit (.bool true)], args := [d1, d2] }
  | _ => none }
def fnExactLeaveStandsRow : OpenClaim := { program := "ytmcgamhipilbpaa", sum := "e655f2f60101b839dda3e6b72c88f4b68065c75bc0ed23257b872d0e866faeb6", func := "loop.example/g01167/laws.FnExactLeaveStands", spec := "fnExactLeaveStands", apart := false }
def FnExactLeaveStandsSaid : Prop := fnExactLeaveStandsRow.holds Try.pinned (OpenSpec.ofChange fnExactLeaveStandsSpec)

/-- ITS FALSE NEIGHBOUR: 'it returns false'. Refute it at one input. -/
def fnExactLeaveStandsWrong : ChangeSpec := { name := "fnExactLeaveStands", fn := fun _ => fun
  | [d1, d2] => { results := [.lit (.bool false)], args := [d1, d2] }
  | _ => none }
def FnExactLeaveStandsWrongFalsely : Prop := fnExactLeaveStandsRow.holds Try.pinned (OpenSpec.ofChange fnExactLeaveStandsWrong)

/-- 'laws.FnExactSidesOf': WHATEVER THE INPUT: true; the input reads as it did. -/
def fnExactSidesOfSpec : ChangeSpec := { name := "fnExactSidesOf", fn := fun _ => fun
  | [d1, d2] => { results := [.lit (.bool true)], args := [d1, d2] }
  | _ => none }
def fnExactSidesOfRow : OpenClaim := { program := "ytmcgamhipilbpaa", sum := "e655f2f60101b839dda3e6b72c88f4b68065c75bc0ed23257b872d0e866faeb6", func := "loop.example/g01167/laws.FnExactSidesOf", spec := "fnExactSidesOf", apart := false }
def FnExactSidesOfSaid : Prop := fnExactSidesOfRow.holds Try.pinned (OpenSpec.ofChange fnExactSidesOfSpec)

/-- ITS FALSE NEIGHBOUR: 'it returns false'. Refute it at one input. -/
def fnExactSidesOfWrong : ChangeSpec := { name := "fnExactSidesOf", fn := fun _ => fun
  | [d1, d2] => { results := [.lit (.bool false)], args := [d1, d2] }
  | _ => none }
def FnExactSidesOfWrongFalsely : Prop := fnExactSidesOfRow.holds Try.pinned (OpenSpec.ofChange fnExactSidesOfWrong)

/-- 'laws.FnExactStandsOf': WHATEVER THE INPUT: true; the input reads as it did. -/
def fnExactStandsOfSpec : ChangeSpec := { name := "fnExactStandsOf", fn := fun _ => fun
  | [d1, d2, d3] => { results := [.lit (.bool true)], args := [d1, d2, d3] }
  | _ => none }
def fnExactStandsOfRow : OpenClaim := { program := "ytmcgamhipilbpaa", sum := "e655f2f60101b839dda3e6b72c88f4b68065c75bc0ed23257b872d0e866faeb6", func := "loop.example/g01167/laws.FnExactStandsOf", spec := "fnExactStandsOf", apart := false }
def FnExactStandsOfSaid : Prop := fnExactStandsOfRow.holds Try.pinned (OpenSpec.ofChange fnExactStandsOfSpec)

/-- ITS FALSE NEIGHBOUR: 'it returns false'. Refute it at one input. -/
def fnExactStandsOfWrong : ChangeSpec := { name := "fnExactStandsOf", fn := fun _ => fun
  | [d1, d2, d3] => { results := [.lit (.bool false)], args := [d1, d2, d3] }
  | _ => none }
def FnExactStandsOfWrongFalsely : Prop := fnExactStandsOfRow.holds Try.pinned (OpenSpec.ofChange fnExactStandsOfWrong)

/- THE SECOND FORM. 'bulk': how many values and letters a reading holds, each counted each time it is reached (what is shared counts as often as it is met; a slice's spare places count too). A statement '..UptoSaid' is the law's where the arguments, and the package variables that the reading takes, are together of bulk at most 1048576: NARROWER than '..Said'. Prove '..Said' where nothing that the law and all that it calls make is longer than what came in: it says more and counts as full. Else prove '..UptoSaid'. A law counts once. -/
mutual
def uptoBulk {H : Type} : DataW H → Nat
  | .lit (.string bytes) => bytes.length + 1
  | .lit _ => 1
  | .nil => 1
  | .ptr d => uptoBulk d + 1
  | .slice elems spare => uptoBulkAll elems + uptoBulkAll spare + 1
  | .agg parts => uptoBulkAll parts + 1
  | .iface _ d => uptoBulk d + 1
  | .map entries => uptoBulkEntries entries + 1
  | .held _ => 1
def uptoBulkAll {H : Type} : List (DataW H) → Nat
  | [] => 0
  | d :: r => uptoBulk d + uptoBulkAll r
def uptoBulkEntries {H : Type} : List (Lit × DataW H) → Nat
  | [] => 0
  | x :: r => uptoBulkEntry x + uptoBulkEntries r
def uptoBulkEntry {H : Type} : Lit × DataW H → Nat
  | (.string bytes, d) => bytes.length + uptoBulk d + 1
  | (_, d) => uptoBulk d + 1
 end
def uptoSmall : (H : Type) → List (DataW H) → Bool := fun _ ds => decide (uptoBulkAll ds ≤ 1048576)
def OpenSpec.upto (s : _root_.Go.ChangeSpec) : _root_.Go.OpenSpec := { _root_.Go.OpenSpec.ofChange s with cond := some uptoSmall }

/-- 'laws.FnExactChangeCounts', WHERE WHAT IT READS IS OF BULK AT MOST 1048576: true; the input reads as it did. -/
def fnExactChangeCountsUptoRow : OpenClaim := { program := "ytmcgamhipilbpaa", sum := "e655f2f60101b839dda3e6b72c88f4b68065c75bc0ed23257b872d0e866faeb6", func := "loop.example/g01167/laws.FnExactChangeCounts", spec := "fnExactChangeCounts", apart := false, narrowed := true }
def FnExactChangeCountsUptoSaid : Prop := fnExactChangeCountsUptoRow.holds Try.pinned (OpenSpec.upto fnExactChangeCountsSpec)

/-- 'laws.FnExactCountStands', WHERE WHAT IT READS IS OF BULK AT MOST 1048576: true; the input reads as it did. -/
def fnExactCountStandsUptoRow : OpenClaim := { program := "ytmcgamhipilbpaa", sum := "e655f2f60101b839dda3e6b72c88f4b68065c75bc0ed23257b872d0e866faeb6", func := "loop.example/g01167/laws.FnExactCountStands", spec := "fnExactCountStands", apart := false, narrowed := true }
def FnExactCountStandsUptoSaid : Prop := fnExactCountStandsUptoRow.holds Try.pinned (OpenSpec.upto fnExactCountStandsSpec)

/-- 'laws.FnExactSideSwaps', WHERE WHAT IT READS IS OF BULK AT MOST 1048576: true; the input reads as it did. -/
def fnExactSideSwapsUptoRow : OpenClaim := { program := "ytmcgamhipilbpaa", sum := "e655f2f60101b839dda3e6b72c88f4b68065c75bc0ed23257b872d0e866faeb6", func := "loop.example/g01167/laws.FnExactSideSwaps", spec := "fnExactSideSwaps", apart := false, narrowed := true }
def FnExactSideSwapsUptoSaid : Prop := fnExactSideSwapsUptoRow.holds Try.pinned (OpenSpec.upto fnExactSideSwapsSpec)

/-- 'laws.FnExactBackChange', WHERE WHAT IT READS IS OF BULK AT MOST 1048576: true; the input reads as it did. -/
def fnExactBackChangeUptoRow : OpenClaim := { program := "ytmcgamhipilbpaa", sum := "e655f2f60101b839dda3e6b72c88f4b68065c75bc0ed23257b872d0e866faeb6", func := "loop.example/g01167/laws.FnExactBackChange", spec := "fnExactBackChange", apart := false, narrowed := true }
def FnExactBackChangeUptoSaid : Prop := fnExactBackChangeUptoRow.holds Try.pinned (OpenSpec.upto fnExactBackChangeSpec)

/-- 'laws.FnExactFreeSwaps', WHERE WHAT IT READS IS OF BULK AT MOST 1048576: true; the input reads as it did. -/
def fnExactFreeSwapsUptoRow : OpenClaim := { program := "ytmcgamhipilbpaa", sum := "e655f2f60101b839dda3e6b72c88f4b68065c75bc0ed23257b872d0e866faeb6", func := "loop.example/g01167/laws.FnExactFreeSwaps", spec := "fnExactFreeSwaps", apart := false, narrowed := true }
def FnExactFreeSwapsUptoSaid : Prop := fnExactFreeSwapsUptoRow.holds Try.pinned (OpenSpec.upto fnExactFreeSwapsSpec)

/-- 'laws.FnExactAfterSwaps', WHERE WHAT IT READS IS OF BULK AT MOST 1048576: true; the input reads as it did. -/
def fnExactAfterSwapsUptoRow : OpenClaim := { program := "ytmcgamhipilbpaa", sum := "e655f2f60101b839dda3e6b72c88f4b68065c75bc0ed23257b872d0e866faeb6", func := "loop.example/g01167/laws.FnExactAfterSwaps", spec := "fnExactAfterSwaps", apart := false, narrowed := true }
def FnExactAfterSwapsUptoSaid : Prop := fnExactAfterSwapsUptoRow.holds Try.pinned (OpenSpec.upto fnExactAfterSwapsSpec)

/-- 'laws.FnExactHoleMoves', WHERE WHAT IT READS IS OF BULK AT MOST 1048576: true; the input reads as it did. -/
def fnExactHoleMovesUptoRow : OpenClaim := { program := "ytmcgamhipilbpaa", sum := "e655f2f60101b839dda3e6b72c88f4b68065c75bc0ed23257b872d0e866faeb6", func := "loop.example/g01167/laws.FnExactHoleMoves", spec := "fnExactHoleMoves", apart := false, narrowed := true }
def FnExactHoleMovesUptoSaid : Prop := fnExactHoleMovesUptoRow.holds Try.pinned (OpenSpec.upto fnExactHoleMovesSpec)

/-- 'laws.FnExactIsArrival', WHERE WHAT IT READS IS OF BULK AT MOST 1048576: true; the input reads as it did. -/
def fnExactIsArrivalUptoRow : OpenClaim := { program := "ytmcgamhipilbpaa", sum := "e655f2f60101b839dda3e6b72c88f4b68065c75bc0ed23257b872d0e866faeb6", func := "loop.example/g01167/laws.FnExactIsArrival", spec := "fnExactIsArrival", apart := false, narrowed := true }
def FnExactIsArrivalUptoSaid : Prop := fnExactIsArrivalUptoRow.holds Try.pinned (OpenSpec.upto fnExactIsArrivalSpec)

/-- 'laws.FnExactFirstSideSwaps', WHERE WHAT IT READS IS OF BULK AT MOST 1048576: true; the input reads as it did. -/
def fnExactFirstSideSwapsUptoRow : OpenClaim := { program := "ytmcgamhipilbpaa", sum := "e655f2f60101b839dda3e6b72c88f4b68065c75bc0ed23257b872d0e866faeb6", func := "loop.example/g01167/laws.FnExactFirstSideSwaps", spec := "fnExactFirstSideSwaps", apart := false, narrowed := true }
def FnExactFirstSideSwapsUptoSaid : Prop := fnExactFirstSideSwapsUptoRow.holds Try.pinned (OpenSpec.upto fnExactFirstSideSwapsSpec)

/-- 'laws.FnExactLeaveStands', WHERE WHAT IT READS IS OF BULK AT MOST 1048576: true; the input reads as it did. -/
def fnExactLeaveStandsUptoRow : OpenClaim := { program := "ytmcgamhipilbpaa", sum := "e655f2f60101b839dda3e6b72c88f4b68065c75bc0ed23257b872d0e866faeb6", func := "loop.example/g01167/laws.FnExactLeaveStands", spec := "fnExactLeaveStands", apart := false, narrowed := true }
def FnExactLeaveStandsUptoSaid : Prop := fnExactLeaveStandsUptoRow.holds Try.pinned (OpenSpec.upto fnExactLeaveStandsSpec)

/-- 'laws.FnExactSidesOf', WHERE WHAT IT READS IS OF BULK AT MOST 1048576: true; the input reads as it did. -/
def fnExactSidesOfUptoRow : OpenClaim := { program := "ytmcgamhipilbpaa", sum := "e655f2f60101b839dda3e6b72c88f4b68065c75bc0ed23257b872d0e866faeb6", func := "loop.example/g01167/laws.FnExactSidesOf", spec := "fnExactSidesOf", apart := false, narrowed := true }
def FnExactSidesOfUptoSaid : Prop := fnExactSidesOfUptoRow.holds Try.pinned (OpenSpec.upto fnExactSidesOfSpec)

/-- 'laws.FnExactStandsOf', WHERE WHAT IT READS IS OF BULK AT MOST 1048576: true; the input reads as it did. -/
def fnExactStandsOfUptoRow : OpenClaim := { program := "ytmcgamhipilbpaa", sum := "e655f2f60101b839dda3e6b72c88f4b68065c75bc0ed23257b872d0e866faeb6", func := "loop.example/g01167/laws.FnExactStandsOf", spec := "fnExactStandsOf", apart := false, narrowed := true }
def FnExactStandsOfUptoSaid : Prop := fnExactStandsOfUptoRow.holds Try.pinned (OpenSpec.upto fnExactStandsOfSpec)

end Rows
end Go.Proofs.Ytmcgamhipilbpaa
