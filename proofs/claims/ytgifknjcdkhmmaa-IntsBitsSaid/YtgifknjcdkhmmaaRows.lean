/-
  No cell of these rows narrows 'for every input' (looked for: loops, veiled, ifaces, maps, wideKeys, modest, calm, conditions, laid).
  DERIVED. THE GIVEN ROWS OF THIS SEAT. 6 by the template 'for every input the law returns true; each argument reads behind the call as it read before'; 0 by the template 'total and deterministic' (their statements: YtgifknjcdkhmmaaTotals.lean).
  GIVEN WITH THE SEED: the statements are not yours to turn. If you find one false, say at which input.
  Laid BY PROGRAM, IN A SANDBOX (cutbox-rows.mjs): the forced cells as the released guide's own fill.sh prints them over the translation 64dfcfe58e179d39… (all of the seat's roots in one cut). By AI agents, Wed Nov 11 2026. No macro, syntax, notation, axiom, sorry.
-/
import Derived.Test.YtgifknjcdkhmmaaChecked
import GoSem.Claim
import GoSem.ClaimJoined
import GoSem.ClaimMapViews
import Derived.JoinedTies
import Derived.KernelRfl
namespace Go.Proofs.Ytgifknjcdkhmmaa
/- THE CELL 'sum', in the pinned program and in every row, IS THE sha256 OF THE DUMP (.gsa) THAT YtgifknjcdkhmmaaProg.lean LOADS. Nothing in Lean hashes anything: it is a label: what it is worth is what the hold of that sum in a sandbox is worth. -/
noncomputable def Try.pinned : Pinned := { name := "ytgifknjcdkhmmaa", sum := "64dfcfe58e179d3922126950a8d0e3b279c68273a618e8d82145ee60c6d4916a", checked := Try.checked }
namespace Rows
def none {H : Type} : Left H := { results := [], args := [] }

/-- 'environlaw01.IntsDivides': WHATEVER THE INPUT: true; the input reads as it did. -/
def intsDividesSpec : ChangeSpec := { name := "intsDivides", fn := fun _ => fun
  | [d1, d2, d3] => { results := [.lit (.bool true)], args := [d1, d2, d3] }
  | _ => none }
def intsDividesRow : OpenClaim := { program := "ytgifknjcdkhmmaa", sum := "64dfcfe58e179d3922126950a8d0e3b279c68273a618e8d82145ee60c6d4916a", func := "environ/environlaw01.IntsDivides", spec := "intsDivides", apart := false }
def IntsDividesSaid : Prop := intsDividesRow.holds Try.pinned (OpenSpec.ofChange intsDividesSpec)

/-- ITS FALSE NEIGHBOUR: 'it returns false'. Refute it at one input. -/
def intsDividesWrong : ChangeSpec := { name := "intsDivides", fn := fun _ => fun
  | [d1, d2, d3] => { results := [.lit (.bool false)], args := [d1, d2, d3] }
  | _ => none }
def IntsDividesWrongFalsely : Prop := intsDividesRow.holds Try.pinned (OpenSpec.ofChange intsDividesWrong)

/-- 'environlaw01.IntsOps': WHATEVER THE INPUT: true; the input reads as it did. -/
def intsOpsSpec : ChangeSpec := { name := "intsOps", fn := fun _ => fun
  | [d1, d2, d3] => { results := [.lit (.bool true)], args := [d1, d2, d3] }
  | _ => none }
def intsOpsRow : OpenClaim := { program := "ytgifknjcdkhmmaa", sum := "64dfcfe58e179d3922126950a8d0e3b279c68273a618e8d82145ee60c6d4916a", func := "environ/environlaw01.IntsOps", spec := "intsOps", unfollowed := true, recurses := true, apart := false }
def IntsOpsSaid : Prop := intsOpsRow.holds Try.pinned (OpenSpec.ofChange intsOpsSpec)

/-- ITS FALSE NEIGHBOUR: 'it returns false'. Refute it at one input. -/
def intsOpsWrong : ChangeSpec := { name := "intsOps", fn := fun _ => fun
  | [d1, d2, d3] => { results := [.lit (.bool false)], args := [d1, d2, d3] }
  | _ => none }
def IntsOpsWrongFalsely : Prop := intsOpsRow.holds Try.pinned (OpenSpec.ofChange intsOpsWrong)

/-- 'environlaw01.IntsSums': WHATEVER THE INPUT: true; the input reads as it did. -/
def intsSumsSpec : ChangeSpec := { name := "intsSums", fn := fun _ => fun
  | [d1, d2, d3] => { results := [.lit (.bool true)], args := [d1, d2, d3] }
  | _ => none }
def intsSumsRow : OpenClaim := { program := "ytgifknjcdkhmmaa", sum := "64dfcfe58e179d3922126950a8d0e3b279c68273a618e8d82145ee60c6d4916a", func := "environ/environlaw01.IntsSums", spec := "intsSums", unfollowed := true, recurses := true, apart := false }
def IntsSumsSaid : Prop := intsSumsRow.holds Try.pinned (OpenSpec.ofChange intsSumsSpec)

/-- ITS FALSE NEIGHBOUR: 'it returns false'. Refute it at one input. -/
def intsSumsWrong : ChangeSpec := { name := "intsSums", fn := fun _ => fun
  | [d1, d2, d3] => { results := [.lit (.bool false)], args := [d1, d2, d3] }
  | _ => none }
def IntsSumsWrongFalsely : Prop := intsSumsRow.holds Try.pinned (OpenSpec.ofChange intsSumsWrong)

/-- 'environlaw01.IntsBits': WHATEVER THE INPUT: true; the input reads as it did. -/
def intsBitsSpec : ChangeSpec := { name := "intsBits", fn := fun _ => fun
  | [d1, d2, d3] => { results := [.lit (.bool true)], args := [d1, d2, d3] }
  | _ => none }
def intsBitsRow : OpenClaim := { program := "ytgifknjcdkhmmaa", sum := "64dfcfe58e179d3922126950a8d0e3b279c68273a618e8d82145ee60c6d4916a", func := "environ/environlaw01.IntsBits", spec := "intsBits", unfollowed := true, recurses := true, apart := false }
def IntsBitsSaid : Prop := intsBitsRow.holds Try.pinned (OpenSpec.ofChange intsBitsSpec)

/-- ITS FALSE NEIGHBOUR: 'it returns false'. Refute it at one input. -/
def intsBitsWrong : ChangeSpec := { name := "intsBits", fn := fun _ => fun
  | [d1, d2, d3] => { results := [.lit (.bool false)], args := [d1, d2, d3] }
  | _ => none }
def IntsBitsWrongFalsely : Prop := intsBitsRow.holds Try.pinned (OpenSpec.ofChange intsBitsWrong)

/-- 'environlaw01.IntsTells': WHATEVER THE INPUT: true; the input reads as it did. -/
def intsTellsSpec : ChangeSpec := { name := "intsTells", fn := fun _ => fun
  | [d1, d2] => { results := [.lit (.bool true)], args := [d1, d2] }
  | _ => none }
def intsTellsRow : OpenClaim := { program := "ytgifknjcdkhmmaa", sum := "64dfcfe58e179d3922126950a8d0e3b279c68273a618e8d82145ee60c6d4916a", func := "environ/environlaw01.IntsTells", spec := "intsTells", unfollowed := true, recurses := true, apart := false }
def IntsTellsSaid : Prop := intsTellsRow.holds Try.pinned (OpenSpec.ofChange intsTellsSpec)

/-- ITS FALSE NEIGHBOUR: 'it returns false'. Refute it at one input. -/
def intsTellsWrong : ChangeSpec := { name := "intsTells", fn := fun _ => fun
  | [d1, d2] => { results := [.lit (.bool false)], args := [d1, d2] }
  | _ => none }
def IntsTellsWrongFalsely : Prop := intsTellsRow.holds Try.pinned (OpenSpec.ofChange intsTellsWrong)

/-- 'environlaw01.IntsWords': WHATEVER THE INPUT: true; the input reads as it did. -/
def intsWordsSpec : ChangeSpec := { name := "intsWords", fn := fun _ => fun
  | [d1, d2, d3] => { results := [.lit (.bool true)], args := [d1, d2, d3] }
  | _ => none }
def intsWordsRow : OpenClaim := { program := "ytgifknjcdkhmmaa", sum := "64dfcfe58e179d3922126950a8d0e3b279c68273a618e8d82145ee60c6d4916a", func := "environ/environlaw01.IntsWords", spec := "intsWords", unfollowed := true, recurses := true, apart := false }
def IntsWordsSaid : Prop := intsWordsRow.holds Try.pinned (OpenSpec.ofChange intsWordsSpec)

/-- ITS FALSE NEIGHBOUR: 'it returns false'. Refute it at one input. -/
def intsWordsWrong : ChangeSpec := { name := "intsWords", fn := fun _ => fun
  | [d1, d2, d3] => { results := [.lit (.bool false)], args := [d1, d2, d3] }
  | _ => none }
def IntsWordsWrongFalsely : Prop := intsWordsRow.holds Try.pinned (OpenSpec.ofChange intsWordsWrong)

/- THE SECOND FORM. 'bulk': how many values and letters a reading holds, each counted each time it is reached (what is shared counts as often as it is met; a slice's spare places count too). A statement '..UptoSaid' is the law's where the arguments, and the package variables that the reading takes, are together of bulk at most 1048576: NARROWER than '..Said'. Prove '..Said' where nothing that the law and all that it calls make is longer than what came in: it says more and counts as full. Else prove '..UptoSaid'. A law counts once. -/
mutual
def uptoBulk {H : Type} : DataW H → Nat
  | .lit (.string bytes) => bytes.length + 1
  | .lit _ => 1
  | .nil => 1
  | .ptr d => uptoBulk d + 1
  | .slice elems spare => uptoBulkAll elems + uptoBulkAll spare + 1
  | .agg parts => uptoBulkAll parts + 1
  | .iface _ d => uptoBulk d + 1
  | .map entries => uptoBulkEntries entries + 1
  | .held _ => 1
def uptoBulkAll {H : Type} : List (DataW H) → Nat
  | [] => 0
  | d :: r => uptoBulk d + uptoBulkAll r
def uptoBulkEntries {H : Type} : List (Lit × DataW H) → Nat
  | [] => 0
  | x :: r => uptoBulkEntry x + uptoBulkEntries r
def uptoBulkEntry {H : Type} : Lit × DataW H → Nat
  | (.string bytes, d) => bytes.length + uptoBulk d + 1
  | (_, d) => uptoBulk d + 1
 end
def uptoSmall : (H : Type) → List (DataW H) → Bool := fun _ ds => decide (uptoBulkAll ds ≤ 1048576)
def OpenSpec.upto (s : _root_.Go.ChangeSpec) : _root_.Go.OpenSpec := { _root_.Go.OpenSpec.ofChange s with cond := some uptoSmall }

/-- 'environlaw01.IntsDivides', WHERE WHAT IT READS IS OF BULK AT MOST 1048576: true; the input reads as it did. -/
def intsDividesUptoRow : OpenClaim := { program := "ytgifknjcdkhmmaa", sum := "64dfcfe58e179d3922126950a8d0e3b279c68273a618e8d82145ee60c6d4916a", func := "environ/environlaw01.IntsDivides", spec := "intsDivides", apart := false, narrowed := true }
def IntsDividesUptoSaid : Prop := intsDividesUptoRow.holds Try.pinned (OpenSpec.upto intsDividesSpec)

/-- 'environlaw01.IntsOps', WHERE WHAT IT READS IS OF BULK AT MOST 1048576: true; the input reads as it did. -/
def intsOpsUptoRow : OpenClaim := { program := "ytgifknjcdkhmmaa", sum := "64dfcfe58e179d3922126950a8d0e3b279c68273a618e8d82145ee60c6d4916a", func := "environ/environlaw01.IntsOps", spec := "intsOps", unfollowed := true, recurses := true, apart := false, narrowed := true }
def IntsOpsUptoSaid : Prop := intsOpsUptoRow.holds Try.pinned (OpenSpec.upto intsOpsSpec)

/-- 'environlaw01.IntsSums', WHERE WHAT IT READS IS OF BULK AT MOST 1048576: true; the input reads as it did. -/
def intsSumsUptoRow : OpenClaim := { program := "ytgifknjcdkhmmaa", sum := "64dfcfe58e179d3922126950a8d0e3b279c68273a618e8d82145ee60c6d4916a", func := "environ/environlaw01.IntsSums", spec := "intsSums", unfollowed := true, recurses := true, apart := false, narrowed := true }
def IntsSumsUptoSaid : Prop := intsSumsUptoRow.holds Try.pinned (OpenSpec.upto intsSumsSpec)

/-- 'environlaw01.IntsBits', WHERE WHAT IT READS IS OF BULK AT MOST 1048576: true; the input reads as it did. -/
def intsBitsUptoRow : OpenClaim := { program := "ytgifknjcdkhmmaa", sum := "64dfcfe58e179d3922126950a8d0e3b279c68273a618e8d82145ee60c6d4916a", func := "environ/environlaw01.IntsBits", spec := "intsBits", unfollowed := true, recurses := true, apart := false, narrowed := true }
def IntsBitsUptoSaid : Prop := intsBitsUptoRow.holds Try.pinned (OpenSpec.upto intsBitsSpec)

/-- 'environlaw01.IntsTells', WHERE WHAT IT READS IS OF BULK AT MOST 1048576: true; the input reads as it did. -/
def intsTellsUptoRow : OpenClaim := { program := "ytgifknjcdkhmmaa", sum := "64dfcfe58e179d3922126950a8d0e3b279c68273a618e8d82145ee60c6d4916a", func := "environ/environlaw01.IntsTells", spec := "intsTells", unfollowed := true, recurses := true, apart := false, narrowed := true }
def IntsTellsUptoSaid : Prop := intsTellsUptoRow.holds Try.pinned (OpenSpec.upto intsTellsSpec)

/-- 'environlaw01.IntsWords', WHERE WHAT IT READS IS OF BULK AT MOST 1048576: true; the input reads as it did. -/
def intsWordsUptoRow : OpenClaim := { program := "ytgifknjcdkhmmaa", sum := "64dfcfe58e179d3922126950a8d0e3b279c68273a618e8d82145ee60c6d4916a", func := "environ/environlaw01.IntsWords", spec := "intsWords", unfollowed := true, recurses := true, apart := false, narrowed := true }
def IntsWordsUptoSaid : Prop := intsWordsUptoRow.holds Try.pinned (OpenSpec.upto intsWordsSpec)

end Rows
end Go.Proofs.Ytgifknjcdkhmmaa
