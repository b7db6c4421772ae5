import Derived.Test.YtamkjpjibkabaaaProg
import Derived.Below
import Derived.Deep.Draws
import Derived.Deep.AppendLies
import Derived.Maps.AppendAt
import Derived.OwnWalk
import Derived.Laws.BytesArg
import Derived.Laws.MakeOwn
import Derived.Laws.OwnMore
import Derived.Deep.OwnRows
import Derived.Tactics
import Derived.Lib.ConvBytes
import Derived.Laws.Slices
import Derived.WalkKit
import Derived.KernelRfl
import Derived.RowKit3
import Derived.Deep.LoopGhost
import Derived.Deep.QuietTactic
import Derived.BigQuiet
import Derived.WideLaws
import Derived.Deep.DeepCutAuto
import Derived.Deep.CutBlock
import Derived.Deep.RegionHeld3
import Derived.Laws.Rows
import Derived.Lib.AppendStr
import Derived.ArgAppend
import Derived.Laws.IdiomCopy
import Derived.OrdersHeld
import Derived.Laws.BitsLemmas
import Derived.RowKit
import Derived.Laws.Externs
import Derived.Laws.MathBits
import Derived.Laws.Bits64b
import Derived.Test.YtamkjpjibkabaaaShelf
import Derived.Test.YtamkjpjibkabaaaWWords
import Derived.Test.YtamkjpjibkabaaaWLast
import Derived.Test.YtamkjpjibkabaaaWTab
import Derived.Test.YtamkjpjibkabaaaWFour
import Derived.Test.YtamkjpjibkabaaaWQPut
import Derived.Test.YtamkjpjibkabaaaWApart
import Derived.Test.YtamkjpjibkabaaaWArr
import Derived.Test.YtamkjpjibkabaaaWZeros
import Derived.Test.YtamkjpjibkabaaaWFoot
import Derived.Test.YtamkjpjibkabaaaWKept
import Derived.Test.YtamkjpjibkabaaaWShare
import Derived.Test.YtamkjpjibkabaaaWN
import Derived.Test.YtamkjpjibkabaaaWFootNe
import Derived.Test.YtamkjpjibkabaaaWAt
import Derived.Test.YtamkjpjibkabaaaWEqStruct
import Derived.Test.YtamkjpjibkabaaaWRepsOne
import Derived.Test.YtamkjpjibkabaaaWInv
import Derived.Test.YtamkjpjibkabaaaWInvWords
import Derived.Test.YtamkjpjibkabaaaWGuard
import Derived.Test.YtamkjpjibkabaaaWNEv
import Derived.Test.YtamkjpjibkabaaaWMore
namespace Go.Proofs.Ytamkjpjibkabaaa.PR
open Go.RowKit Go.Proofs.YtamkjpjibkabaaaW.PrintWords Go.Proofs.YtamkjpjibkabaaaW.PrintLast Go.Proofs.YtamkjpjibkabaaaW.PrintMore
set_option linter.unusedVariables false
theorem bw {a : Nat} {w W0 W : World} (H : Aside0 (Below a w W0)) (h : Below a w W := by repeat (first | (with_reducible first | exact Aside0.out (by with_reducible assumption) | apply below_alloc | apply pw_below_drewN | apply below_drew1 | refine below_set ?_ (Aside0.out (by with_reducible assumption))) | exact Aside0.out (by assumption))) : Below a w W := h
theorem bk {w0 W : World} {g : Nat} {o : Obj} (B : Aside0 (w0.heap[g]? = some o)) (h : W.heap[g]? = some o := by (with_reducible repeat (first | refine blk_drewN ?_ _ | refine blk_drew ?_ | refine blk_alloc ?_ _ | refine blk_far ?_ (Aside0.out (by with_reducible assumption)) _)); (first | (with_reducible exact Aside0.out (by with_reducible assumption)) | exact Aside0.out (by assumption))) : W.heap[g]? = some o := h
theorem bb {w0 W W1 : World} {g : Nat} {o : Obj} (B : Aside0 (w0.heap[g]? = some o)) (hb : Below W.heap.size W W1) (h : W.heap[g]? = some o := by (with_reducible repeat (first | refine blk_drewN ?_ _ | refine blk_drew ?_ | refine blk_alloc ?_ _ | refine blk_far ?_ (Aside0.out (by with_reducible assumption)) _)); (first | (with_reducible exact Aside0.out (by with_reducible assumption)) | exact Aside0.out (by assumption))) : W1.heap[g]? = some o := blk_below h hb
theorem bs {w W0 W : World} {g : Nat} (H : Aside0 (Below w.heap.size w W0)) (hg : g = W.heap.size) (h : Below w.heap.size w W := by repeat (first | (with_reducible first | exact Aside0.out (by with_reducible assumption) | apply below_alloc | apply pw_below_drewN | apply below_drew1 | refine below_set ?_ (Aside0.out (by with_reducible assumption))) | exact Aside0.out (by assumption))) : w.heap.size ≤ g := hg ▸ below_size h
theorem nl {w0 W : World} {g g' : Nat} {o : Obj} (B : Aside0 (w0.heap[g]? = some o)) (hg : g' = W.heap.size) (h : W.heap[g]? = some o := by (with_reducible repeat (first | refine blk_drewN ?_ _ | refine blk_drew ?_ | refine blk_alloc ?_ _ | refine blk_far ?_ (Aside0.out (by with_reducible assumption)) _)); (first | (with_reducible exact Aside0.out (by with_reducible assumption)) | exact Aside0.out (by assumption))) : g ≠ g' := hg ▸ Nat.ne_of_lt (blk_lt h)
theorem ng {w0 W : World} {g g' : Nat} {o : Obj} (B : Aside0 (w0.heap[g]? = some o)) (hg : g' = W.heap.size) (h : W.heap[g]? = some o := by (with_reducible repeat (first | refine blk_drewN ?_ _ | refine blk_drew ?_ | refine blk_alloc ?_ _ | refine blk_far ?_ (Aside0.out (by with_reducible assumption)) _)); (first | (with_reducible exact Aside0.out (by with_reducible assumption)) | exact Aside0.out (by assumption))) : g' ≠ g := hg ▸ Nat.ne_of_gt (blk_lt h)
theorem bc {w : World} {g : Nat} {t : TypeId} {cs : Array Value} (B : Aside0 (w.heap[g]? = some (.cells cs t (0, 0)))) (i : Nat) {v : Value} (h : cs[i]? = some v) : w.cell? ⟨g, i, none⟩ = some v := (blk_cell B.out i).trans h
end Go.Proofs.Ytamkjpjibkabaaa.PR
