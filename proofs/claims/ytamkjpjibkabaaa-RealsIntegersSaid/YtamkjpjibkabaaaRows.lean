/-
  No cell of these rows narrows 'for every input' (looked for: loops, veiled, ifaces, maps, wideKeys, modest, calm, conditions, laid).
  DERIVED. THE GIVEN ROWS OF THIS SEAT. 8 by the template 'for every input the law returns true; each argument reads behind the call as it read before'; 0 by the template 'total and deterministic' (their statements: YtamkjpjibkabaaaTotals.lean).
  GIVEN WITH THE SEED: the statements are not yours to turn. If you find one false, say at which input.
  Laid BY PROGRAM, IN A SANDBOX (cutbox-rows.mjs): the forced cells as the released guide's own fill.sh prints them over the translation eea01e61e3fc1c6f… (all of the seat's roots in one cut). By AI agents, Wed Nov 11 2026. No macro, syntax, notation, axiom, sorry.
-/
import Derived.Test.YtamkjpjibkabaaaChecked
import GoSem.Claim
import GoSem.ClaimJoined
import GoSem.ClaimMapViews
import Derived.JoinedTies
import Derived.KernelRfl
namespace Go.Proofs.Ytamkjpjibkabaaa
/- THE CELL 'sum', in the pinned program and in every row, IS THE sha256 OF THE DUMP (.gsa) THAT YtamkjpjibkabaaaProg.lean LOADS. Nothing in Lean hashes anything: it is a label: what it is worth is what the hold of that sum in a sandbox is worth. -/
noncomputable def Try.pinned : Pinned := { name := "ytamkjpjibkabaaa", sum := "eea01e61e3fc1c6fdf2d619d2af8536b4f8f7139314af9245ebccce433c41f99", checked := Try.checked }
namespace Rows
def none {H : Type} : Left H := { results := [], args := [] }

/-- 'environlaw02.RealsMakes': WHATEVER THE INPUT: true; the input reads as it did. -/
def realsMakesSpec : ChangeSpec := { name := "realsMakes", fn := fun _ => fun
  | [d1, d2, d3] => { results := [.lit (.bool true)], args := [d1, d2, d3] }
  | _ => none }
def realsMakesRow : OpenClaim := { program := "ytamkjpjibkabaaa", sum := "eea01e61e3fc1c6fdf2d619d2af8536b4f8f7139314af9245ebccce433c41f99", func := "environ/environlaw02.RealsMakes", spec := "realsMakes", inPlace := ["math/bits.Sub64", "math/bits.Add64"], unfollowed := true, recurses := true, named := ["math/bits.divideError", "math/bits.overflowError"], apart := false }
def RealsMakesSaid : Prop := realsMakesRow.holds Try.pinned (OpenSpec.ofChange realsMakesSpec)

/-- ITS FALSE NEIGHBOUR: 'it returns false'. Refute it at one input. -/
def realsMakesWrong : ChangeSpec := { name := "realsMakes", fn := fun _ => fun
  | [d1, d2, d3] => { results := [.lit (.bool false)], args := [d1, d2, d3] }
  | _ => none }
def RealsMakesWrongFalsely : Prop := realsMakesRow.holds Try.pinned (OpenSpec.ofChange realsMakesWrong)

/-- 'environlaw02.RealsPowers': WHATEVER THE INPUT: true; the input reads as it did. -/
def realsPowersSpec : ChangeSpec := { name := "realsPowers", fn := fun _ => fun
  | [d1, d2, d3] => { results := [.lit (.bool true)], args := [d1, d2, d3] }
  | _ => none }
def realsPowersRow : OpenClaim := { program := "ytamkjpjibkabaaa", sum := "eea01e61e3fc1c6fdf2d619d2af8536b4f8f7139314af9245ebccce433c41f99", func := "environ/environlaw02.RealsPowers", spec := "realsPowers", inPlace := ["math/bits.Sub64", "math/bits.Add64"], unfollowed := true, recurses := true, named := ["math/bits.divideError", "math/bits.overflowError"], apart := false }
def RealsPowersSaid : Prop := realsPowersRow.holds Try.pinned (OpenSpec.ofChange realsPowersSpec)

/-- ITS FALSE NEIGHBOUR: 'it returns false'. Refute it at one input. -/
def realsPowersWrong : ChangeSpec := { name := "realsPowers", fn := fun _ => fun
  | [d1, d2, d3] => { results := [.lit (.bool false)], args := [d1, d2, d3] }
  | _ => none }
def RealsPowersWrongFalsely : Prop := realsPowersRow.holds Try.pinned (OpenSpec.ofChange realsPowersWrong)

/-- 'environlaw02.RealsOps': WHATEVER THE INPUT: true; the input reads as it did. -/
def realsOpsSpec : ChangeSpec := { name := "realsOps", fn := fun _ => fun
  | [d1, d2, d3] => { results := [.lit (.bool true)], args := [d1, d2, d3] }
  | _ => none }
def realsOpsRow : OpenClaim := { program := "ytamkjpjibkabaaa", sum := "eea01e61e3fc1c6fdf2d619d2af8536b4f8f7139314af9245ebccce433c41f99", func := "environ/environlaw02.RealsOps", spec := "realsOps", inPlace := ["math/bits.Sub64", "math/bits.Add64"], unfollowed := true, recurses := true, named := ["math/bits.divideError", "math/bits.overflowError"], apart := false }
def RealsOpsSaid : Prop := realsOpsRow.holds Try.pinned (OpenSpec.ofChange realsOpsSpec)

/-- ITS FALSE NEIGHBOUR: 'it returns false'. Refute it at one input. -/
def realsOpsWrong : ChangeSpec := { name := "realsOps", fn := fun _ => fun
  | [d1, d2, d3] => { results := [.lit (.bool false)], args := [d1, d2, d3] }
  | _ => none }
def RealsOpsWrongFalsely : Prop := realsOpsRow.holds Try.pinned (OpenSpec.ofChange realsOpsWrong)

/-- 'environlaw02.RealsOrdered': WHATEVER THE INPUT: true; the input reads as it did. -/
def realsOrderedSpec : ChangeSpec := { name := "realsOrdered", fn := fun _ => fun
  | [d1, d2] => { results := [.lit (.bool true)], args := [d1, d2] }
  | _ => none }
def realsOrderedRow : OpenClaim := { program := "ytamkjpjibkabaaa", sum := "eea01e61e3fc1c6fdf2d619d2af8536b4f8f7139314af9245ebccce433c41f99", func := "environ/environlaw02.RealsOrdered", spec := "realsOrdered", inPlace := ["math/bits.Sub64", "math/bits.Add64"], named := ["math/bits.divideError", "math/bits.overflowError"], apart := false }
def RealsOrderedSaid : Prop := realsOrderedRow.holds Try.pinned (OpenSpec.ofChange realsOrderedSpec)

/-- ITS FALSE NEIGHBOUR: 'it returns false'. Refute it at one input. -/
def realsOrderedWrong : ChangeSpec := { name := "realsOrdered", fn := fun _ => fun
  | [d1, d2] => { results := [.lit (.bool false)], args := [d1, d2] }
  | _ => none }
def RealsOrderedWrongFalsely : Prop := realsOrderedRow.holds Try.pinned (OpenSpec.ofChange realsOrderedWrong)

/-- 'environlaw02.RealsTurns': WHATEVER THE INPUT: true; the input reads as it did. -/
def realsTurnsSpec : ChangeSpec := { name := "realsTurns", fn := fun _ => fun
  | [d1, d2, d3] => { results := [.lit (.bool true)], args := [d1, d2, d3] }
  | _ => none }
def realsTurnsRow : OpenClaim := { program := "ytamkjpjibkabaaa", sum := "eea01e61e3fc1c6fdf2d619d2af8536b4f8f7139314af9245ebccce433c41f99", func := "environ/environlaw02.RealsTurns", spec := "realsTurns", inPlace := ["math/bits.Sub64", "math/bits.Add64"], unfollowed := true, recurses := true, named := ["math/bits.divideError", "math/bits.overflowError"], apart := false }
def RealsTurnsSaid : Prop := realsTurnsRow.holds Try.pinned (OpenSpec.ofChange realsTurnsSpec)

/-- ITS FALSE NEIGHBOUR: 'it returns false'. Refute it at one input. -/
def realsTurnsWrong : ChangeSpec := { name := "realsTurns", fn := fun _ => fun
  | [d1, d2, d3] => { results := [.lit (.bool false)], args := [d1, d2, d3] }
  | _ => none }
def RealsTurnsWrongFalsely : Prop := realsTurnsRow.holds Try.pinned (OpenSpec.ofChange realsTurnsWrong)

/-- 'environlaw02.RealsBrackets': WHATEVER THE INPUT: true; the input reads as it did. -/
def realsBracketsSpec : ChangeSpec := { name := "realsBrackets", fn := fun _ => fun
  | [d1, d2] => { results := [.lit (.bool true)], args := [d1, d2] }
  | _ => none }
def realsBracketsRow : OpenClaim := { program := "ytamkjpjibkabaaa", sum := "eea01e61e3fc1c6fdf2d619d2af8536b4f8f7139314af9245ebccce433c41f99", func := "environ/environlaw02.RealsBrackets", spec := "realsBrackets", inPlace := ["math/bits.Sub64", "math/bits.Add64"], named := ["math/bits.divideError", "math/bits.overflowError"], apart := false }
def RealsBracketsSaid : Prop := realsBracketsRow.holds Try.pinned (OpenSpec.ofChange realsBracketsSpec)

/-- ITS FALSE NEIGHBOUR: 'it returns false'. Refute it at one input. -/
def realsBracketsWrong : ChangeSpec := { name := "realsBrackets", fn := fun _ => fun
  | [d1, d2] => { results := [.lit (.bool false)], args := [d1, d2] }
  | _ => none }
def RealsBracketsWrongFalsely : Prop := realsBracketsRow.holds Try.pinned (OpenSpec.ofChange realsBracketsWrong)

/-- 'environlaw02.RealsRoots': WHATEVER THE INPUT: true; the input reads as it did. -/
def realsRootsSpec : ChangeSpec := { name := "realsRoots", fn := fun _ => fun
  | [d1, d2] => { results := [.lit (.bool true)], args := [d1, d2] }
  | _ => none }
def realsRootsRow : OpenClaim := { program := "ytamkjpjibkabaaa", sum := "eea01e61e3fc1c6fdf2d619d2af8536b4f8f7139314af9245ebccce433c41f99", func := "environ/environlaw02.RealsRoots", spec := "realsRoots", inPlace := ["math/bits.Sub64", "math/bits.Add64"], unfollowed := true, recurses := true, named := ["math/bits.divideError", "math/bits.overflowError"], apart := false }
def RealsRootsSaid : Prop := realsRootsRow.holds Try.pinned (OpenSpec.ofChange realsRootsSpec)

/-- ITS FALSE NEIGHBOUR: 'it returns false'. Refute it at one input. -/
def realsRootsWrong : ChangeSpec := { name := "realsRoots", fn := fun _ => fun
  | [d1, d2] => { results := [.lit (.bool false)], args := [d1, d2] }
  | _ => none }
def RealsRootsWrongFalsely : Prop := realsRootsRow.holds Try.pinned (OpenSpec.ofChange realsRootsWrong)

/-- 'environlaw02.RealsIntegers': WHATEVER THE INPUT: true; the input reads as it did. -/
def realsIntegersSpec : ChangeSpec := { name := "realsIntegers", fn := fun _ => fun
  | [d1, d2, d3] => { results := [.lit (.bool true)], args := [d1, d2, d3] }
  | _ => none }
def realsIntegersRow : OpenClaim := { program := "ytamkjpjibkabaaa", sum := "eea01e61e3fc1c6fdf2d619d2af8536b4f8f7139314af9245ebccce433c41f99", func := "environ/environlaw02.RealsIntegers", spec := "realsIntegers", inPlace := ["math/bits.Sub64", "math/bits.Add64"], unfollowed := true, recurses := true, named := ["math/bits.divideError", "math/bits.overflowError"], apart := false }
def RealsIntegersSaid : Prop := realsIntegersRow.holds Try.pinned (OpenSpec.ofChange realsIntegersSpec)

/-- ITS FALSE NEIGHBOUR: 'it returns false'. Refute it at one input. -/
def realsIntegersWrong : ChangeSpec := { name := "realsIntegers", fn := fun _ => fun
  | [d1, d2, d3] => { results := [.lit (.bool false)], args := [d1, d2, d3] }
  | _ => none }
def RealsIntegersWrongFalsely : Prop := realsIntegersRow.holds Try.pinned (OpenSpec.ofChange realsIntegersWrong)

/- THE SECOND FORM. 'bulk': how many values and letters a reading holds, each counted each time it is reached (what is shared counts as often as it is met; a slice's spare places count too). A statement '..UptoSaid' is the law's where the arguments, and the package variables that the reading takes, are together of bulk at most 1048576: NARROWER than '..Said'. Prove '..Said' where nothing that the law and all that it calls make is longer than what came in: it says more and counts as full. Else prove '..UptoSaid'. A law counts once. -/
mutual
def uptoBulk {H : Type} : DataW H → Nat
  | .lit (.string bytes) => bytes.length + 1
  | .lit _ => 1
  | .nil => 1
  | .ptr d => uptoBulk d + 1
  | .slice elems spare => uptoBulkAll elems + uptoBulkAll spare + 1
  | .agg parts => uptoBulkAll parts + 1
  | .iface _ d => uptoBulk d + 1
  | .map entries => uptoBulkEntries entries + 1
  | .held _ => 1
def uptoBulkAll {H : Type} : List (DataW H) → Nat
  | [] => 0
  | d :: r => uptoBulk d + uptoBulkAll r
def uptoBulkEntries {H : Type} : List (Lit × DataW H) → Nat
  | [] => 0
  | x :: r => uptoBulkEntry x + uptoBulkEntries r
def uptoBulkEntry {H : Type} : Lit × DataW H → Nat
  | (.string bytes, d) => bytes.length + uptoBulk d + 1
  | (_, d) => uptoBulk d + 1
 end
def uptoSmall : (H : Type) → List (DataW H) → Bool := fun _ ds => decide (uptoBulkAll ds ≤ 1048576)
def OpenSpec.upto (s : _root_.Go.ChangeSpec) : _root_.Go.OpenSpec := { _root_.Go.OpenSpec.ofChange s with cond := some uptoSmall }

/-- 'environlaw02.RealsMakes', WHERE WHAT IT READS IS OF BULK AT MOST 1048576: true; the input reads as it did. -/
def realsMakesUptoRow : OpenClaim := { program := "ytamkjpjibkabaaa", sum := "eea01e61e3fc1c6fdf2d619d2af8536b4f8f7139314af9245ebccce433c41f99", func := "environ/environlaw02.RealsMakes", spec := "realsMakes", inPlace := ["math/bits.Sub64", "math/bits.Add64"], unfollowed := true, recurses := true, named := ["math/bits.divideError", "math/bits.overflowError"], apart := false, narrowed := true }
def RealsMakesUptoSaid : Prop := realsMakesUptoRow.holds Try.pinned (OpenSpec.upto realsMakesSpec)

/-- 'environlaw02.RealsPowers', WHERE WHAT IT READS IS OF BULK AT MOST 1048576: true; the input reads as it did. -/
def realsPowersUptoRow : OpenClaim := { program := "ytamkjpjibkabaaa", sum := "eea01e61e3fc1c6fdf2d619d2af8536b4f8f7139314af9245ebccce433c41f99", func := "environ/environlaw02.RealsPowers", spec := "realsPowers", inPlace := ["math/bits.Sub64", "math/bits.Add64"], unfollowed := true, recurses := true, named := ["math/bits.divideError", "math/bits.overflowError"], apart := false, narrowed := true }
def RealsPowersUptoSaid : Prop := realsPowersUptoRow.holds Try.pinned (OpenSpec.upto realsPowersSpec)

/-- 'environlaw02.RealsOps', WHERE WHAT IT READS IS OF BULK AT MOST 1048576: true; the input reads as it did. -/
def realsOpsUptoRow : OpenClaim := { program := "ytamkjpjibkabaaa", sum := "eea01e61e3fc1c6fdf2d619d2af8536b4f8f7139314af9245ebccce433c41f99", func := "environ/environlaw02.RealsOps", spec := "realsOps", inPlace := ["math/bits.Sub64", "math/bits.Add64"], unfollowed := true, recurses := true, named := ["math/bits.divideError", "math/bits.overflowError"], apart := false, narrowed := true }
def RealsOpsUptoSaid : Prop := realsOpsUptoRow.holds Try.pinned (OpenSpec.upto realsOpsSpec)

/-- 'environlaw02.RealsOrdered', WHERE WHAT IT READS IS OF BULK AT MOST 1048576: true; the input reads as it did. -/
def realsOrderedUptoRow : OpenClaim := { program := "ytamkjpjibkabaaa", sum := "eea01e61e3fc1c6fdf2d619d2af8536b4f8f7139314af9245ebccce433c41f99", func := "environ/environlaw02.RealsOrdered", spec := "realsOrdered", inPlace := ["math/bits.Sub64", "math/bits.Add64"], named := ["math/bits.divideError", "math/bits.overflowError"], apart := false, narrowed := true }
def RealsOrderedUptoSaid : Prop := realsOrderedUptoRow.holds Try.pinned (OpenSpec.upto realsOrderedSpec)

/-- 'environlaw02.RealsTurns', WHERE WHAT IT READS IS OF BULK AT MOST 1048576: true; the input reads as it did. -/
def realsTurnsUptoRow : OpenClaim := { program := "ytamkjpjibkabaaa", sum := "eea01e61e3fc1c6fdf2d619d2af8536b4f8f7139314af9245ebccce433c41f99", func := "environ/environlaw02.RealsTurns", spec := "realsTurns", inPlace := ["math/bits.Sub64", "math/bits.Add64"], unfollowed := true, recurses := true, named := ["math/bits.divideError", "math/bits.overflowError"], apart := false, narrowed := true }
def RealsTurnsUptoSaid : Prop := realsTurnsUptoRow.holds Try.pinned (OpenSpec.upto realsTurnsSpec)

/-- 'environlaw02.RealsBrackets', WHERE WHAT IT READS IS OF BULK AT MOST 1048576: true; the input reads as it did. -/
def realsBracketsUptoRow : OpenClaim := { program := "ytamkjpjibkabaaa", sum := "eea01e61e3fc1c6fdf2d619d2af8536b4f8f7139314af9245ebccce433c41f99", func := "environ/environlaw02.RealsBrackets", spec := "realsBrackets", inPlace := ["math/bits.Sub64", "math/bits.Add64"], named := ["math/bits.divideError", "math/bits.overflowError"], apart := false, narrowed := true }
def RealsBracketsUptoSaid : Prop := realsBracketsUptoRow.holds Try.pinned (OpenSpec.upto realsBracketsSpec)

/-- 'environlaw02.RealsRoots', WHERE WHAT IT READS IS OF BULK AT MOST 1048576: true; the input reads as it did. -/
def realsRootsUptoRow : OpenClaim := { program := "ytamkjpjibkabaaa", sum := "eea01e61e3fc1c6fdf2d619d2af8536b4f8f7139314af9245ebccce433c41f99", func := "environ/environlaw02.RealsRoots", spec := "realsRoots", inPlace := ["math/bits.Sub64", "math/bits.Add64"], unfollowed := true, recurses := true, named := ["math/bits.divideError", "math/bits.overflowError"], apart := false, narrowed := true }
def RealsRootsUptoSaid : Prop := realsRootsUptoRow.holds Try.pinned (OpenSpec.upto realsRootsSpec)

/-- 'environlaw02.RealsIntegers', WHERE WHAT IT READS IS OF BULK AT MOST 1048576: true; the input reads as it did. -/
def realsIntegersUptoRow : OpenClaim := { program := "ytamkjpjibkabaaa", sum := "eea01e61e3fc1c6fdf2d619d2af8536b4f8f7139314af9245ebccce433c41f99", func := "environ/environlaw02.RealsIntegers", spec := "realsIntegers", inPlace := ["math/bits.Sub64", "math/bits.Add64"], unfollowed := true, recurses := true, named := ["math/bits.divideError", "math/bits.overflowError"], apart := false, narrowed := true }
def RealsIntegersUptoSaid : Prop := realsIntegersUptoRow.holds Try.pinned (OpenSpec.upto realsIntegersSpec)

end Rows
end Go.Proofs.Ytamkjpjibkabaaa
