/-
  NARROWER THAN 'FOR EVERY INPUT', by the rows' own cells (each row's printed sentence says how): FnExactLeastStands: laid · FnExactBestArrival: laid · FnTheatre: laid.
  DERIVED. THE GIVEN ROWS OF THIS SEAT. 3 by the template 'for every input the law returns true; each argument reads behind the call as it read before'; 0 by the template 'total and deterministic' (their statements: YtohmonfaabofaaaDoorTotals.lean).
  GIVEN WITH THE SEED: the statements are not yours to turn. If you find one false, say at which input.
  Laid BY PROGRAM, IN A SANDBOX (cutbox-rows.mjs): the forced cells as the released guide's own fill.sh prints them over the translation 44137d862e92f456… (all of the seat's roots in one cut). By AI agents, Wed Nov 11 2026. No macro, syntax, notation, axiom, sorry.
-/
import Derived.Test.YtohmonfaabofaaaDoorChecked
import GoSem.Claim
import GoSem.ClaimJoined
import GoSem.ClaimMapViews
import Derived.JoinedTies
import Derived.KernelRfl
namespace Go.Proofs.YtohmonfaabofaaaDoor
/- THE CELL 'sum', in the pinned program and in every row, IS THE sha256 OF THE DUMP (.gsa) THAT YtohmonfaabofaaaDoorProg.lean LOADS. Nothing in Lean hashes anything: it is a label: what it is worth is what the hold of that sum in a sandbox is worth. -/
noncomputable def Tryd.pinned : Pinned := { name := "ytohmonfaabofaaadoor", sum := "44137d862e92f456a61ecbafeb0334afd3b581fc06035ba3eaa814f0d45885d8", checked := Tryd.checked }
namespace Rows
def none {H : Type} : Left H := { results := [], args := [] }

/- WHAT THE LISTED PACKAGE-LEVEL VARIABLES READ AS WHEN THE CALL BEGINS. Each datum BY PROGRAM (the guide's laid-datum.mjs) off the statement by which the dump's own 'gosem.cut.vars' lays the variable. In a bare row this is a premise. The card (YtohmonfaabofaaaDoorCards.lean) ties it to the program's text. -/
def laid_math_bits_deBruijn32tab {H : Type} : DataW H := .agg [.lit (.int .u8 0), .lit (.int .u8 1), .lit (.int .u8 28), .lit (.int .u8 2), .lit (.int .u8 29), .lit (.int .u8 14), .lit (.int .u8 24), .lit (.int .u8 3), .lit (.int .u8 30), .lit (.int .u8 22), .lit (.int .u8 20), .lit (.int .u8 15), .lit (.int .u8 25), .lit (.int .u8 17), .lit (.int .u8 4), .lit (.int .u8 8), .lit (.int .u8 31), .lit (.int .u8 27), .lit (.int .u8 13), .lit (.int .u8 23), .lit (.int .u8 21), .lit (.int .u8 19), .lit (.int .u8 16), .lit (.int .u8 7), .lit (.int .u8 26), .lit (.int .u8 12), .lit (.int .u8 18), .lit (.int .u8 6), .lit (.int .u8 11), .lit (.int .u8 5), .lit (.int .u8 10), .lit (.int .u8 9)]

/-- 'laws.FnExactLeastStands': WHATEVER THE INPUT: true; the input reads as it did. -/
def fnExactLeastStandsSpec : ChangeSpec := { name := "fnExactLeastStands", fn := fun _ => fun
  | [d1, d2] => { results := [.lit (.bool true)], args := [d1, d2] }
  | _ => none }
def fnExactLeastStandsRow : OpenClaim := { program := "ytohmonfaabofaaadoor", sum := "44137d862e92f456a61ecbafeb0334afd3b581fc06035ba3eaa814f0d45885d8", func := "loop.example/g01167/laws.FnExactLeastStands", spec := "fnExactLeastStands", unfollowed := true, recurses := true, named := ["math/bits.deBruijn32tab"], apart := false, laid := [("math/bits.deBruijn32tab", laid_math_bits_deBruijn32tab)] }
def FnExactLeastStandsSaid : Prop := fnExactLeastStandsRow.holds Tryd.pinned (OpenSpec.ofChange fnExactLeastStandsSpec)

/-- ITS FALSE NEIGHBOUR: 'it returns false'. Refute it at one input. -/
def fnExactLeastStandsWrong : ChangeSpec := { name := "fnExactLeastStands", fn := fun _ => fun
  | [d1, d2] => { results := [.lit (.bool false)], args := [d1, d2] }
  | _ => none }
def FnExactLeastStandsWrongFalsely : Prop := fnExactLeastStandsRow.holds Tryd.pinned (OpenSpec.ofChange fnExactLeastStandsWrong)

/-- 'laws.FnExactBestArrival': WHATEVER THE INPUT: true; the input reads as it did. -/
def fnExactBestArrivalSpec : ChangeSpec := { name := "fnExactBestArrival", fn := fun _ => fun
  | [d1, d2] => { results := [.lit (.bool true)], args := [d1, d2] }
  | _ => none }
def fnExactBestArrivalRow : OpenClaim := { program := "ytohmonfaabofaaadoor", sum := "44137d862e92f456a61ecbafeb0334afd3b581fc06035ba3eaa814f0d45885d8", func := "loop.example/g01167/laws.FnExactBestArrival", spec := "fnExactBestArrival", unfollowed := true, recurses := true, named := ["math/bits.deBruijn32tab"], apart := false, laid := [("math/bits.deBruijn32tab", laid_math_bits_deBruijn32tab)] }
def FnExactBestArrivalSaid : Prop := fnExactBestArrivalRow.holds Tryd.pinned (OpenSpec.ofChange fnExactBestArrivalSpec)

/-- ITS FALSE NEIGHBOUR: 'it returns false'. Refute it at one input. -/
def fnExactBestArrivalWrong : ChangeSpec := { name := "fnExactBestArrival", fn := fun _ => fun
  | [d1, d2] => { results := [.lit (.bool false)], args := [d1, d2] }
  | _ => none }
def FnExactBestArrivalWrongFalsely : Prop := fnExactBestArrivalRow.holds Tryd.pinned (OpenSpec.ofChange fnExactBestArrivalWrong)

/-- 'laws.FnTheatre': WHATEVER THE INPUT: true; the input reads as it did. -/
def fnTheatreSpec : ChangeSpec := { name := "fnTheatre", fn := fun _ => fun
  | [d] => { results := [.lit (.bool true)], args := [d] }
  | _ => none }
def fnTheatreRow : OpenClaim := { program := "ytohmonfaabofaaadoor", sum := "44137d862e92f456a61ecbafeb0334afd3b581fc06035ba3eaa814f0d45885d8", func := "loop.example/g01167/laws.FnTheatre", spec := "fnTheatre", unfollowed := true, recurses := true, named := ["math/bits.deBruijn32tab"], apart := false, laid := [("math/bits.deBruijn32tab", laid_math_bits_deBruijn32tab)] }
def FnTheatreSaid : Prop := fnTheatreRow.holds Tryd.pinned (OpenSpec.ofChange fnTheatreSpec)

/-- ITS FALSE NEIGHBOUR: 'it returns false'. Refute it at one input. -/
def fnTheatreWrong : ChangeSpec := { name := "fnTheatre", fn := fun _ => fun
  | [d] => { results := [.lit (.bool false)], args := [d] }
  | _ => none }
def FnTheatreWrongFalsely : Prop := fnTheatreRow.holds Tryd.pinned (OpenSpec.ofChange fnTheatreWrong)

/- THE SECOND FORM. 'bulk': how many values and letters a reading holds, each counted each time it is reached (what is shared counts as often as it is met; a slice's spare places count too). A statement '..UptoSaid' is the law's where the arguments, and the package variables that the reading takes, are together of bulk at most 1048576: NARROWER than '..Said'. Prove '..Said' where nothing that the law and all that it calls make is longer than what came in: it says more and counts as full. Else prove '..UptoSaid'. A law counts once. -/
mutual
def uptoBulk {H : Type} : DataW H → Nat
  | .lit (.string bytes) => bytes.length + 1
  | .lit _ => 1
  | .nil => 1
  | .ptr d => uptoBulk d + 1
  | .slice elems spare => uptoBulkAll elems + uptoBulkAll spare + 1
  | .agg parts => uptoBulkAll parts + 1
  | .iface _ d => uptoBulk d + 1
  | .map entries => uptoBulkEntries entries + 1
  | .held _ => 1
def uptoBulkAll {H : Type} : List (DataW H) → Nat
  | [] => 0
  | d :: r => uptoBulk d + uptoBulkAll r
def uptoBulkEntries {H : Type} : List (Lit × DataW H) → Nat
  | [] => 0
  | x :: r => uptoBulkEntry x + uptoBulkEntries r
def uptoBulkEntry {H : Type} : Lit × DataW H → Nat
  | (.string bytes, d) => bytes.length + uptoBulk d + 1
  | (_, d) => uptoBulk d + 1
 end
def uptoSmall : (H : Type) → List (DataW H) → Bool := fun _ ds => decide (uptoBulkAll ds ≤ 1048576)
def OpenSpec.upto (s : _root_.Go.ChangeSpec) : _root_.Go.OpenSpec := { _root_.Go.OpenSpec.ofChange s with cond := some uptoSmall }

/-- 'laws.FnExactLeastStands', WHERE WHAT IT READS IS OF BULK AT MOST 1048576: true; the input reads as it did. -/
def fnExactLeastStandsUptoRow : OpenClaim := { program := "ytohmonfaabofaaadoor", sum := "44137d862e92f456a61ecbafeb0334afd3b581fc06035ba3eaa814f0d45885d8", func := "loop.example/g01167/laws.FnExactLeastStands", spec := "fnExactLeastStands", unfollowed := true, recurses := true, named := ["math/bits.deBruijn32tab"], apart := false, laid := [("math/bits.deBruijn32tab", laid_math_bits_deBruijn32tab)], narrowed := true }
def FnExactLeastStandsUptoSaid : Prop := fnExactLeastStandsUptoRow.holds Tryd.pinned (OpenSpec.upto fnExactLeastStandsSpec)

/-- 'laws.FnExactBestArrival', WHERE WHAT IT READS IS OF BULK AT MOST 1048576: true; the input reads as it did. -/
def fnExactBestArrivalUptoRow : OpenClaim := { program := "ytohmonfaabofaaadoor", sum := "44137d862e92f456a61ecbafeb0334afd3b581fc06035ba3eaa814f0d45885d8", func := "loop.example/g01167/laws.FnExactBestArrival", spec := "fnExactBestArrival", unfollowed := true, recurses := true, named := ["math/bits.deBruijn32tab"], apart := false, laid := [("math/bits.deBruijn32tab", laid_math_bits_deBruijn32tab)], narrowed := true }
def FnExactBestArrivalUptoSaid : Prop := fnExactBestArrivalUptoRow.holds Tryd.pinned (OpenSpec.upto fnExactBestArrivalSpec)

/-- 'laws.FnTheatre', WHERE WHAT IT READS IS OF BULK AT MOST 1048576: true; the input reads as it did. -/
def fnTheatreUptoRow : OpenClaim := { program := "ytohmonfaabofaaadoor", sum := "44137d862e92f456a61ecbafeb0334afd3b581fc06035ba3eaa814f0d45885d8", func := "loop.example/g01167/laws.FnTheatre", spec := "fnTheatre", unfollowed := true, recurses := true, named := ["math/bits.deBruijn32tab"], apart := false, laid := [("math/bits.deBruijn32tab", laid_math_bits_deBruijn32tab)], narrowed := true }
def FnTheatreUptoSaid : Prop := fnTheatreUptoRow.holds Tryd.pinned (OpenSpec.upto fnTheatreSpec)

end Rows
end Go.Proofs.YtohmonfaabofaaaDoor
