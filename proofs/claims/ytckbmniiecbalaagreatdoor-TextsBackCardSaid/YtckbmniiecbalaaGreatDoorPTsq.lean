import Derived.Test.YtckbmniiecbalaaGreatDoorProg
import Derived.Below
import Derived.Deep.Draws
import Derived.Deep.AppendLies
import Derived.Maps.AppendAt
import Derived.OwnWalk
import Derived.Laws.BytesArg
import Derived.Laws.MakeOwn
import Derived.Laws.OwnMore
import Derived.Deep.OwnRows
import Derived.Tactics
import Derived.Lib.ConvBytes
import Derived.Laws.Slices
import Derived.WalkKit
import Derived.KernelRfl
import Derived.RowKit3
import Derived.Deep.LoopGhost
import Derived.Deep.QuietTactic
import Derived.BigQuiet
import Derived.WideLaws
import Derived.Deep.DeepCutAuto
import Derived.Deep.CutBlock
import Derived.Deep.RegionHeld3
import Derived.Laws.Rows
import Derived.Lib.AppendStr
import Derived.ArgAppend
import Derived.Laws.IdiomCopy
import Derived.OrdersHeld
import Derived.Laws.BitsLemmas
import Derived.RowKit
import Derived.Laws.Externs
import Derived.Laws.MathBits
import Derived.Laws.Bits64b
import Derived.Test.YtckbmniiecbalaaGreatDoorShelf
import Derived.Test.YtckbmniiecbalaaGreatDoorWWords
import Derived.Test.YtckbmniiecbalaaGreatDoorWLast
import Derived.Test.YtckbmniiecbalaaGreatDoorWTab
import Derived.Test.YtckbmniiecbalaaGreatDoorWFour
import Derived.Test.YtckbmniiecbalaaGreatDoorWQPut
import Derived.Test.YtckbmniiecbalaaGreatDoorWApart
import Derived.Test.YtckbmniiecbalaaGreatDoorWArr
import Derived.Test.YtckbmniiecbalaaGreatDoorWZeros
import Derived.Test.YtckbmniiecbalaaGreatDoorWFoot
import Derived.Test.YtckbmniiecbalaaGreatDoorWKept
import Derived.Test.YtckbmniiecbalaaGreatDoorWShare
import Derived.Test.YtckbmniiecbalaaGreatDoorWN
import Derived.Test.YtckbmniiecbalaaGreatDoorWFootNe
import Derived.Test.YtckbmniiecbalaaGreatDoorWAt
import Derived.Test.YtckbmniiecbalaaGreatDoorWEqStruct
import Derived.Test.YtckbmniiecbalaaGreatDoorWRepsOne
import Derived.Test.YtckbmniiecbalaaGreatDoorWInv
import Derived.Test.YtckbmniiecbalaaGreatDoorWInvWords
import Derived.Test.YtckbmniiecbalaaGreatDoorWGuard
import Derived.Test.YtckbmniiecbalaaGreatDoorWNEv
import Derived.Test.YtckbmniiecbalaaGreatDoorWMore
namespace Go.Proofs.YtckbmniiecbalaaGreatDoor.PT
open Go.RowKit Go.Proofs.YtckbmniiecbalaaGreatDoorW.PrintWords Go.Proofs.YtckbmniiecbalaaGreatDoorW.PrintLast Go.Proofs.YtckbmniiecbalaaGreatDoorW.PrintMore
set_option linter.unusedVariables false
theorem bw {a : Nat} {w W0 W : World} (H : Aside0 (Below a w W0)) (h : Below a w W := by repeat (first | (with_reducible first | exact Aside0.out (by with_reducible assumption) | apply below_alloc | apply pw_below_drewN | apply below_drew1 | refine below_set ?_ (Aside0.out (by with_reducible assumption))) | exact Aside0.out (by assumption))) : Below a w W := h
theorem bk {w0 W : World} {g : Nat} {o : Obj} (B : Aside0 (w0.heap[g]? = some o)) (h : W.heap[g]? = some o := by (with_reducible repeat (first | refine blk_drewN ?_ _ | refine blk_drew ?_ | refine blk_alloc ?_ _ | refine blk_far ?_ (Aside0.out (by with_reducible assumption)) _)); (first | (with_reducible exact Aside0.out (by with_reducible assumption)) | exact Aside0.out (by assumption))) : W.heap[g]? = some o := h
theorem bb {w0 W W1 : World} {g : Nat} {o : Obj} (B : Aside0 (w0.heap[g]? = some o)) (hb : Below W.heap.size W W1) (h : W.heap[g]? = some o := by (with_reducible repeat (first | refine blk_drewN ?_ _ | refine blk_drew ?_ | refine blk_alloc ?_ _ | refine blk_far ?_ (Aside0.out (by with_reducible assumption)) _)); (first | (with_reducible exact Aside0.out (by with_reducible assumption)) | exact Aside0.out (by assumption))) : W1.heap[g]? = some o := blk_below h hb
theorem bs {w W0 W : World} {g : Nat} (H : Aside0 (Below w.heap.size w W0)) (hg : g = W.heap.size) (h : Below w.heap.size w W := by repeat (first | (with_reducible first | exact Aside0.out (by with_reducible assumption) | apply below_alloc | apply pw_below_drewN | apply below_drew1 | refine below_set ?_ (Aside0.out (by with_reducible assumption))) | exact Aside0.out (by assumption))) : w.heap.size ≤ g := hg ▸ below_size h
theorem nl {w0 W : World} {g g' : Nat} {o : Obj} (B : Aside0 (w0.heap[g]? = some o)) (hg : g' = W.heap.size) (h : W.heap[g]? = some o := by (with_reducible repeat (first | refine blk_drewN ?_ _ | refine blk_drew ?_ | refine blk_alloc ?_ _ | refine blk_far ?_ (Aside0.out (by with_reducible assumption)) _)); (first | (with_reducible exact Aside0.out (by with_reducible assumption)) | exact Aside0.out (by assumption))) : g ≠ g' := hg ▸ Nat.ne_of_lt (blk_lt h)
theorem ng {w0 W : World} {g g' : Nat} {o : Obj} (B : Aside0 (w0.heap[g]? = some o)) (hg : g' = W.heap.size) (h : W.heap[g]? = some o := by (with_reducible repeat (first | refine blk_drewN ?_ _ | refine blk_drew ?_ | refine blk_alloc ?_ _ | refine blk_far ?_ (Aside0.out (by with_reducible assumption)) _)); (first | (with_reducible exact Aside0.out (by with_reducible assumption)) | exact Aside0.out (by assumption))) : g' ≠ g := hg ▸ Nat.ne_of_gt (blk_lt h)
theorem bc {w : World} {g : Nat} {t : TypeId} {cs : Array Value} (B : Aside0 (w.heap[g]? = some (.cells cs t (0, 0)))) (i : Nat) {v : Value} (h : cs[i]? = some v) : w.cell? ⟨g, i, none⟩ = some v := (blk_cell B.out i).trans h
theorem sx : (∀ (a : Act) (t : Tmp) (v : Value), a.put (some t) v = { a with tmps := a.tmps.setIfInBounds t v }) ∧ (∀ (a : Act) (v : Value), a.put none v = a) ∧ (∀ (l : List Value) (i : Nat) (a : Value), l.toArray.setIfInBounds i a = (l.set i a).toArray) ∧ (∀ (x : Value) (l : List Value) (a : Value), (x :: l).set 0 a = a :: l) ∧ (∀ (x : Value) (l : List Value) (i : Nat) (a : Value), (x :: l).set (i + 1) a = x :: l.set i a) := ⟨fun _ _ _ => rfl, fun _ _ => rfl, by simp, by simp, by simp⟩
theorem cf2 {w : World} {n : Nat} {t : TypeId} {a b : Value} (B : Aside0 (w.heap[n]? = some (.cells #[a, b] t (0, 0)))) : w.cell? ⟨n, 0, none⟩ = some a ∧ w.cell? ⟨n, 1, none⟩ = some b ∧ w.frozen? ⟨n, 0, none⟩ = false ∧ w.frozen? ⟨n, 1, none⟩ = false := ⟨bc B 0 rfl, bc B 1 rfl, blk_frozen B.out 0, blk_frozen B.out 1⟩
theorem cf4 {w : World} {n : Nat} {t : TypeId} {a b c d : Value} (B : Aside0 (w.heap[n]? = some (.cells #[a, b, c, d] t (0, 0)))) : w.cell? ⟨n, 0, none⟩ = some a ∧ w.cell? ⟨n, 1, none⟩ = some b ∧ w.cell? ⟨n, 2, none⟩ = some c ∧ w.cell? ⟨n, 3, none⟩ = some d ∧ w.frozen? ⟨n, 0, none⟩ = false ∧ w.frozen? ⟨n, 1, none⟩ = false ∧ w.frozen? ⟨n, 2, none⟩ = false ∧ w.frozen? ⟨n, 3, none⟩ = false := ⟨bc B 0 rfl, bc B 1 rfl, bc B 2 rfl, bc B 3 rfl, blk_frozen B.out 0, blk_frozen B.out 1, blk_frozen B.out 2, blk_frozen B.out 3⟩
theorem cf5 {w : World} {n : Nat} {t : TypeId} {a b c d e : Value} (B : Aside0 (w.heap[n]? = some (.cells #[a, b, c, d, e] t (0, 0)))) : w.cell? ⟨n, 0, none⟩ = some a ∧ w.cell? ⟨n, 1, none⟩ = some b ∧ w.cell? ⟨n, 2, none⟩ = some c ∧ w.cell? ⟨n, 3, none⟩ = some d ∧ w.cell? ⟨n, 4, none⟩ = some e ∧ w.frozen? ⟨n, 0, none⟩ = false ∧ w.frozen? ⟨n, 1, none⟩ = false ∧ w.frozen? ⟨n, 2, none⟩ = false ∧ w.frozen? ⟨n, 3, none⟩ = false ∧ w.frozen? ⟨n, 4, none⟩ = false := ⟨bc B 0 rfl, bc B 1 rfl, bc B 2 rfl, bc B 3 rfl, bc B 4 rfl, blk_frozen B.out 0, blk_frozen B.out 1, blk_frozen B.out 2, blk_frozen B.out 3, blk_frozen B.out 4⟩
def bl (n m : Nat) : Array Bool := ((List.range n).map fun i => m.testBit i).toArray
section
variable {P : Program} {ops : Array Oper} {Q : Exit → Act → World → Prop} {md : Region.Mode} {S : World → Prop} {ds : List Nat} {T : Bool × List (List Nat × List Nat)}
theorem pu {oi : Oper} {v : Value} {fuel : Nat} {l : Array Bool} {a a' : Act} {w : World} (i N : Nat) (l' : Array Bool) (HT : Aside0 (rtab md ops = T)) (h : wpAnyLast P md ops Q S ds fuel l' a' w)
    (hi : ops[i]? = some oi := by rfl) (hN : oi.dst = some N := by rfl) (hc : anyT T l.toList l'.toList i = true := by kernel_rfl) (hQ : ∀ c a w, Q (.panic c) (a.put oi.dst v) w → Q (.panic c) a w := by exact fun _ _ _ h => h)
    (hw : Region.wanted oi (yielded ops a.tmps) = true := by kernel_rfl) (hy : ∀ w, (execOp a.eval oi).run P w = .ok (.value v) w := by intro w'; go_simp; with_reducible rfl)
    (ha : a.put (some N) v = a' := by simp only [sx, i64_w, i32_w]; rfl) : wpAnyLast P md ops Q S ds (fuel + 1) l a w := pure_ l' hi hN (any_of HT.out hc) hQ (.inl ⟨hw, hy⟩) ha h
theorem pun {oi : Oper} {fuel : Nat} {l : Array Bool} {a a' : Act} {w : World} (i N : Nat) (l' : Array Bool) (HT : Aside0 (rtab md ops = T)) (h : wpAnyLast P md ops Q S ds fuel l' a' w)
    (hi : ops[i]? = some oi := by rfl) (hN : oi.dst = some N := by rfl) (hc : anyT T l.toList l'.toList i = true := by kernel_rfl) (hQ : ∀ c a w, Q (.panic c) (a.put oi.dst undef) w → Q (.panic c) a w := by exact fun _ _ _ h => h)
    (hw : Region.wanted oi (yielded ops a.tmps) = false := by kernel_rfl)
    (ha : a.put (some N) undef = a' := by simp only [sx, i64_w, i32_w]; rfl) : wpAnyLast P md ops Q S ds (fuel + 1) l a w := pure_ l' hi hN (any_of HT.out hc) hQ (.inr ⟨hw, rfl⟩) ha h
theorem ta {B : List Nat} {oi : Oper} {v : Value} {fuel : Nat} {l : Array Bool} {a a' : Act} {w : World} (i N : Nat) (l' : Array Bool) (HT : Aside0 (rtab md ops = T)) (HW : Aside0 (waitsOk T.2 B = true)) (hS : S w) (h : wpAnyLast P md ops Q S ds fuel l' a' w)
    (hi : ops[i]? = some oi := by rfl) (hN : oi.dst = some N := by rfl) (hc : takeW T B ds l.toList l'.toList i = true := by kernel_rfl) (hQ : ∀ c a w, Q (.panic c) (a.put oi.dst v) w → Q (.panic c) a w := by exact fun _ _ _ h => h)
    (hw : Region.wanted oi (yielded ops a.tmps) = true := by kernel_rfl) (hy : ∀ w, S w → (execOp a.eval oi).run P w = .ok (.value v) w := by intro w' hS; (try dsimp only at hS); go_simp; with_reducible rfl)
    (ha : a.put (some N) v = a' := by simp only [sx, i64_w, i32_w]; rfl) : wpAnyLast P md ops Q S ds (fuel + 1) l a w := take_ l' hi hN (take_ofW HT.out HW.out hc) hQ (.inl ⟨hw, hy⟩) hS ha h
end
end Go.Proofs.YtckbmniiecbalaaGreatDoor.PT
