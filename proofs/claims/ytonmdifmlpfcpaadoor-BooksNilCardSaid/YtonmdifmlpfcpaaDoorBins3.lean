import Derived.StillTailTactics
import Derived.ArgAppend
import Derived.Below
import Derived.BigQuiet
import Derived.Deep.AppendLies
import Derived.Deep.CutBlock
import Derived.Deep.DeepCutAuto
import Derived.Deep.Draws
import Derived.Deep.LoopGhost
import Derived.Deep.OwnRows
import Derived.Deep.QuietTactic
import Derived.Deep.RegionHeld3
import Derived.KernelRfl
import Derived.Laws.Bits64b
import Derived.Laws.BitsLemmas
import Derived.Laws.BytesArg
import Derived.Laws.Externs
import Derived.Laws.IdiomCopy
import Derived.Laws.MakeOwn
import Derived.Laws.MathBits
import Derived.Laws.OwnMore
import Derived.Laws.Rows
import Derived.Laws.Slices
import Derived.Lib.AppendStr
import Derived.Lib.ConvBytes
import Derived.Maps.AppendAt
import Derived.OrdersHeld
import Derived.OwnWalk
import Derived.RowKit
import Derived.RowKit3
import Derived.Tactics
import Derived.Test.YtonmdifmlpfcpaaDoorProg
import Derived.WalkKit
import Derived.WideLaws
import Derived.Lib.Walk
import Derived.Lib.SliceRun
import Derived.Lib.JoinLaws
import Derived.Lib.AppendZeros
import Derived.Lib.Overlaps
import Derived.Lib.AppendZerosOnto
import Derived.Shelf.RegionOpenPlain
import Derived.Shelf.Spec.SlicesInsert
import Derived.Deep.RegionLaw
import Derived.Test.YtonmdifmlpfcpaaDoorWWords
import Derived.Test.YtonmdifmlpfcpaaDoorWLast
import Derived.Test.YtonmdifmlpfcpaaDoorWTab
import Derived.Test.YtonmdifmlpfcpaaDoorWFour
import Derived.Test.YtonmdifmlpfcpaaDoorWQPut
import Derived.Test.YtonmdifmlpfcpaaDoorWApart
import Derived.Test.YtonmdifmlpfcpaaDoorWArr
import Derived.Test.YtonmdifmlpfcpaaDoorWZeros
import Derived.Test.YtonmdifmlpfcpaaDoorWFoot
import Derived.Test.YtonmdifmlpfcpaaDoorWKept
import Derived.Test.YtonmdifmlpfcpaaDoorWShare
import Derived.Test.YtonmdifmlpfcpaaDoorWN
import Derived.Test.YtonmdifmlpfcpaaDoorWFootNe
import Derived.Test.YtonmdifmlpfcpaaDoorWAt
import Derived.Test.YtonmdifmlpfcpaaDoorWEqStruct
import Derived.Test.YtonmdifmlpfcpaaDoorWRepsOne
import Derived.Test.YtonmdifmlpfcpaaDoorWInv
import Derived.Test.YtonmdifmlpfcpaaDoorWInvWords
import Derived.Test.YtonmdifmlpfcpaaDoorWGuard
import Derived.Test.YtonmdifmlpfcpaaDoorWNEv
import Derived.Test.YtonmdifmlpfcpaaDoorWMore
import Derived.Test.YtonmdifmlpfcpaaDoorBins2
namespace Go.Proofs.YtonmdifmlpfcpaaDoor.PB
open Go.RowKit Go.Proofs.YtonmdifmlpfcpaaDoorW.PrintWords Go.Proofs.YtonmdifmlpfcpaaDoorW.PrintLast Go.Proofs.YtonmdifmlpfcpaaDoorW.PrintMore
set_option linter.unusedVariables false
set_option linter.unusedSimpArgs false
set_option maxRecDepth 100000
set_option maxHeartbeats 1000000
theorem ins_at {xs : List Value} {p : Value} {i n : Nat} (hn : xs.length = n) (hi : i ≤ n) (j : Nat) : (xs.take i ++ p :: xs.drop i)[j]? = if j < i then xs[j]? else if j = i then some p else xs[j - 1]? := by
  have hl : (xs.take i).length = i := by rw [List.length_take]; omega
  by_cases h1 : j < i
  · rw [if_pos h1, List.getElem?_append_left (by omega), List.getElem?_take, if_pos h1]
  · rw [if_neg h1, List.getElem?_append_right (by omega), hl]
    by_cases h2 : j = i
    · rw [if_pos h2, h2, Nat.sub_self]; rfl
    · rw [if_neg h2, show j - i = (j - i - 1) + 1 by omega, List.getElem?_cons_succ, List.getElem?_drop]
      congr 1; omega
/-- two writes into a row: what stands behind the place, and the new one -/
theorem two_writes {w w1 : World} {g n i : Nat} {xs : List Value} {p : Value} (hl : xs.length = n) (hi : i ≤ n) (hs : ∀ j, j < n + 1 → (w.cell? ⟨g, j, none⟩).isSome = true) (hx : ∀ j, j < i → w.cell? ⟨g, j, none⟩ = xs[j]?)
    (hw : w1 = (w.setCells g (i + 1) (xs.drop i)).setCells g i [p] ∨ w1 = ((w.setCells g i [p]).drew).setCells g (i + 1) (xs.drop i)) : ∀ j, j < n + 1 → w1.cell? ⟨g, j, none⟩ = (xs.take i ++ p :: xs.drop i)[j]? := by
  intro j hj
  rw [ins_at hl hi j]
  have hdl : (xs.drop i).length = n - i := by rw [List.length_drop, hl]
  have hd : ∀ (W : World), (∀ j, j < n + 1 → (W.cell? ⟨g, j, none⟩).isSome = true) → i < j → (W.setCells g (i + 1) (xs.drop i)).cell? ⟨g, j, none⟩ = xs[j - 1]? := fun W hW h => by
    have h1 := World.cell?_setCells_in g (xs.drop i) (i + 1) W (fun q hq => hW _ (by omega)) (j - (i + 1)) (by omega)
    rw [show i + 1 + (j - (i + 1)) = j by omega] at h1
    rw [h1, List.getElem_drop, ← List.getElem?_eq_getElem]
    congr 1; omega
  have hdo : ∀ (W : World), j ≤ i → (W.setCells g (i + 1) (xs.drop i)).cell? ⟨g, j, none⟩ = W.cell? ⟨g, j, none⟩ := fun W h =>
    World.cell?_setCells_out g _ _ _ _ (fun _ _ => by show j < i + 1 ∨ _; omega)
  have hpo : ∀ (W : World), j ≠ i → (W.setCells g i [p]).cell? ⟨g, j, none⟩ = W.cell? ⟨g, j, none⟩ := fun W h =>
    World.cell?_setCells_out g _ _ _ _ (fun _ _ => by show j < i ∨ i + 1 ≤ j; omega)
  have hpi : ∀ (W : World), (W.cell? ⟨g, i, none⟩).isSome = true → (W.setCells g i [p]).cell? ⟨g, i, none⟩ = some p := fun W h => by
    have := World.cell?_setCells_in g [p] i W (fun q hq => by
      have : q = 0 := by simp at hq; omega
      subst this; exact h) 0 (by simp)
    simpa using this
  rcases hw with rfl | rfl
  · by_cases h1 : j < i
    · rw [if_pos h1, hpo _ (by omega), hdo _ (by omega), hx j h1]
    · rw [if_neg h1]
      by_cases h2 : j = i
      · subst h2
        rw [if_pos rfl, hpi _ (by rw [hdo _ (Nat.le_refl _)]; exact hs _ hj)]
      · rw [if_neg h2, hpo _ h2, hd w hs (by omega)]
  · by_cases h1 : j < i
    · rw [if_pos h1, hdo _ (by omega)]
      show (w.setCells g i [p]).cell? _ = _
      rw [hpo _ (by omega), hx j h1]
    · rw [if_neg h1]
      by_cases h2 : j = i
      · subst h2
        rw [if_pos rfl, hdo _ (Nat.le_refl _)]
        exact hpi _ (hs _ hj)
      · rw [if_neg h2]
        refine hd _ (fun q hq => ?_) (by omega)
        show ((w.setCells g i [p]).cell? _).isSome = true
        exact Proofs.isSome_setCells g _ _ _ (fun t ht => hs _ (by simp at ht; omega)) _ (hs q hq)
theorem grown_trans {a b c : World} {r : Option Nat} (h : a.grownBy b r) (k : b.grownBy c r) : a.grownBy c r :=
  ⟨k.os.trans h.os, k.tape.trans h.tape, k.output.trans h.output, Nat.le_trans h.size k.size, fun q hq hn => (k.block q (Nat.lt_of_lt_of_le hq h.size) hn).trans (h.block q hq hn)⟩
theorem insert_any (v : Value) (n i vb : Nat) (xs : List Value) (p : Value) (w : World) (hown : w.ownsRow 0 74 1 v n xs) (hi : i ≤ n) (hvb : ∀ g, v.ownBlock = some g → vb ≠ g) (hp : p.oneCell' = true) (hv : w.heap[vb]? = some (.cells #[p] 74 (0, 0))) (h1c : ∀ v ∈ xs, v.oneCell' = true) (hn : n ≤ 1000) :
    Calls Tryd.prog 74 #[v, .int .i64 i, .slice (some ⟨vb, 0, none⟩) 1 1] w fun e w' => ∃ v', e = .returned v' ∧ w'.ownsRow 0 74 1 v' (n + 1) (xs.take i ++ p :: xs.drop i) ∧ w.grownBy w' v.ownBlock ∧ (v'.ownBlock = v.ownBlock ∨ v'.ownBlock = some w.heap.size) := by
  have hl : xs.length = n := by have := hown.1; omega
  rcases Nat.lt_or_ge i n with hlt | hge
  · rcases row_cases hown with ⟨rfl, h0⟩ | ⟨g, cap, rfl, hcap, hm, hx⟩
    · omega
    · have hb : ∃ cur, w.heap[g]? = some (.cells cur 74 (0, 0)) ∧ cur.size = cap := by
        rcases hown.2 with ⟨h, _⟩ | ⟨g', cap', cur, hvv, _, hg, _, _, hcs, _⟩
        · exact absurd h (by simp)
        · simp only [Value.slice.injEq, Option.some.injEq, Addr.mk.injEq, and_true, true_and] at hvv
          obtain ⟨rfl, rfl⟩ := hvv
          exact ⟨cur, hg, by omega⟩
      obtain ⟨cur, hg, hcs⟩ := hb
      by_cases hroom : n + 1 ≤ cap
      · refine (insert_shift g cap n i vb xs p w hown hlt hroom (hvb g rfl) hp hv h1c hn).mono ?_
        rintro e w' ⟨rfl, hw'⟩
        obtain ⟨c1, hc1, hs1⟩ := setCells_blk g 74 (xs.drop i) (i + 1) w.drew cur hg
        obtain ⟨c2, hc2, hs2⟩ := setCells_blk g 74 [p] i _ c1 hc1
        refine ⟨_, rfl, row_of_cells (cur := c2) (by rw [hw']; exact hc2) (by simp; omega) hroom hm (by omega) ?_, ?_, .inl rfl⟩
        · refine two_writes (w := w.drew) hl hi (fun j hj => ?_) (fun j hj => hx j (by omega)) (.inl hw')
          show (w.cell? ⟨g, j, none⟩).isSome = true
          simp only [World.cell?, hg]; simp; omega
        · rw [hw']
          have q1 := setCells_grown g (xs.drop i) (i + 1) w.drew
          exact grown_trans (b := w.drew.setCells g (i + 1) (xs.drop i)) ⟨q1.os, q1.tape, q1.output, q1.size, q1.block⟩ (setCells_grown g _ _ _)
      · have hgc := grownCap_ge w (n + 1) cap 74
        have hgm := grownCap_le_maxLen w (n + 1) cap 74 (by unfold maxLen; omega)
        refine (insert_grow g cap n i vb xs p w hown hlt (by omega) hp hv h1c hn).mono ?_
        rintro e w' ⟨rfl, hw'⟩
        obtain ⟨ROW, hROW⟩ : ∃ ROW : Array Value, ROW = (xs.take i).toArray ++ Builtin.zeroCells (Value.pointer none).cells (n + 1 - i) ++ Builtin.zeroCells (Value.pointer none).cells (grownCap w (n + 1) cap 74 - (n + 1)) := ⟨_, rfl⟩
        rw [← hROW] at hw'
        have hRs : ROW.size = grownCap w (n + 1) cap 74 := by
          rw [hROW]; simp [Builtin.zeroCells, Value.cells]; omega
        have hRx : ∀ j, j < i → ROW[j]? = xs[j]? := fun j hj => by
          rw [hROW, Array.append_assoc, Array.getElem?_append_left (by simp; omega)]
          rw [List.getElem?_toArray, List.getElem?_take, if_pos hj]
        generalize grownCap w (n + 1) cap 74 = G at *
        have h0 : (w.alloc (.cells ROW 74)).drew.heap[w.heap.size]? = some (.cells ROW 74 (0, 0)) := heap_alloc_new w _
        obtain ⟨c1, hc1, hs1⟩ := setCells_blk w.heap.size 74 [p] i _ ROW h0
        obtain ⟨c2, hc2, hs2⟩ := setCells_blk w.heap.size 74 (xs.drop i) (i + 1) (((w.alloc (.cells ROW 74)).drew.setCells w.heap.size i [p]).drew) c1 hc1
        refine ⟨_, rfl, row_of_cells (cur := c2) (by rw [hw']; exact hc2) (by simp; omega) hgc hgm (by omega) ?_, ?_, .inr rfl⟩
        · refine two_writes (w := (w.alloc (.cells ROW 74)).drew) hl hi (fun j hj => ?_) (fun j hj => ?_) (.inr hw')
          · simp only [World.cell?, h0]; simp; omega
          · simp only [World.cell?, h0]; simpa using hRx j hj
        · rw [hw']
          have a1 := setCells_grown w.heap.size [p] i ((w.alloc (.cells ROW 74)).drew)
          have a2 := setCells_grown w.heap.size (xs.drop i) (i + 1) (((w.alloc (.cells ROW 74)).drew.setCells w.heap.size i [p]).drew)
          have a0 : w.grownBy (w.alloc (.cells ROW 74)).drew none := ⟨rfl, rfl, rfl, by simp, fun k hk _ => Below.heap_alloc w (.cells ROW 74) k hk⟩
          refine ⟨a2.os.trans a1.os, a2.tape.trans a1.tape, a2.output.trans a1.output, Nat.le_trans a0.size (Nat.le_trans a1.size a2.size), fun k hk _ => ?_⟩
          have hne : some k ≠ some w.heap.size := fun e => by injection e; omega
          exact (a2.block k (Nat.lt_of_lt_of_le hk (Nat.le_trans a0.size a1.size)) hne).trans ((a1.block k (Nat.lt_of_lt_of_le hk a0.size) hne).trans (a0.block k hk (by simp)))
  · obtain rfl : i = n := by omega
    refine (insert_end v i xs w hown vb p hp ((blk_cell hv 0).trans rfl) hn).mono ?_
    rintro e w' ⟨v', rfl, h1, h2, h3⟩
    refine ⟨v', rfl, ?_, h2, h3⟩
    rw [List.take_of_length_le (by omega), List.drop_of_length_le (by omega)]
    exact h1
end Go.Proofs.YtonmdifmlpfcpaaDoor.PB
