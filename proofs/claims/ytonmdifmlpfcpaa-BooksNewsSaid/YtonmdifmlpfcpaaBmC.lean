import Derived.StillTailTactics
import Derived.ArgAppend
import Derived.Below
import Derived.BigQuiet
import Derived.Deep.AppendLies
import Derived.Deep.CutBlock
import Derived.Deep.DeepCutAuto
import Derived.Deep.Draws
import Derived.Deep.LoopGhost
import Derived.Deep.OwnRows
import Derived.Deep.QuietTactic
import Derived.Deep.RegionHeld3
import Derived.KernelRfl
import Derived.Laws.Bits64b
import Derived.Laws.BitsLemmas
import Derived.Laws.BytesArg
import Derived.Laws.Externs
import Derived.Laws.IdiomCopy
import Derived.Laws.MakeOwn
import Derived.Laws.MathBits
import Derived.Laws.OwnMore
import Derived.Laws.Rows
import Derived.Laws.Slices
import Derived.Lib.AppendStr
import Derived.Lib.ConvBytes
import Derived.Maps.AppendAt
import Derived.OrdersHeld
import Derived.OwnWalk
import Derived.RowKit
import Derived.RowKit3
import Derived.Tactics
import Derived.Test.YtonmdifmlpfcpaaProg
import Derived.WalkKit
import Derived.WideLaws
import Derived.Lib.Walk
import Derived.Lib.SliceRun
import Derived.Lib.JoinLaws
import Derived.Lib.AppendZeros
import Derived.Lib.Overlaps
import Derived.Lib.AppendZerosOnto
import Derived.Shelf.RegionOpenPlain
import Derived.Shelf.Spec.SlicesInsert
import Derived.Deep.RegionLaw
import Derived.Lib.BufferRead
import Derived.Laws.IdiomStrings
import Derived.Test.YtonmdifmlpfcpaaWWords
import Derived.Test.YtonmdifmlpfcpaaWLast
import Derived.Test.YtonmdifmlpfcpaaWTab
import Derived.Test.YtonmdifmlpfcpaaWFour
import Derived.Test.YtonmdifmlpfcpaaWQPut
import Derived.Test.YtonmdifmlpfcpaaWApart
import Derived.Test.YtonmdifmlpfcpaaWArr
import Derived.Test.YtonmdifmlpfcpaaWZeros
import Derived.Test.YtonmdifmlpfcpaaWFoot
import Derived.Test.YtonmdifmlpfcpaaWKept
import Derived.Test.YtonmdifmlpfcpaaWShare
import Derived.Test.YtonmdifmlpfcpaaWN
import Derived.Test.YtonmdifmlpfcpaaWFootNe
import Derived.Test.YtonmdifmlpfcpaaWAt
import Derived.Test.YtonmdifmlpfcpaaWEqStruct
import Derived.Test.YtonmdifmlpfcpaaWRepsOne
import Derived.Test.YtonmdifmlpfcpaaWInv
import Derived.Test.YtonmdifmlpfcpaaWInvWords
import Derived.Test.YtonmdifmlpfcpaaWGuard
import Derived.Test.YtonmdifmlpfcpaaWNEv
import Derived.Test.YtonmdifmlpfcpaaWMore
import Derived.Test.YtonmdifmlpfcpaaBmB
namespace Go.Proofs.Ytonmdifmlpfcpaa.PB
open Go.RowKit Go.Proofs.YtonmdifmlpfcpaaW.PrintWords Go.Proofs.YtonmdifmlpfcpaaW.PrintLast Go.Proofs.YtonmdifmlpfcpaaW.PrintMore
set_option linter.unusedVariables false
set_option linter.unusedSimpArgs false
set_option maxRecDepth 100000
set_option maxHeartbeats 1000000
theorem bytes_tx (w : World) (s : ByteArray) (hs : s.size ≤ 1048576) (κ' : Nat → Tag) (t : Tag) (W : World) (hk : κ' w.heap.size = t) (hW : W.heap[w.heap.size]? = (Lib.bytesWorld w 5 s).heap[w.heap.size]?) :
    TxAt κ' t W (.slice (some ⟨w.heap.size, 0, none⟩) s.size (grownCap w s.size 0 5)) s.data.toList := by
  have hl : s.data.toList.length = s.size := by simp
  have hge := grownCap_ge w s.size 0 5
  have hsz : (Lib.bytesCells w 5 s).size = grownCap w s.size 0 5 := by
    unfold Lib.bytesCells
    have : s.data.size = s.size := rfl
    simp; omega
  refine .inr (.inr ⟨w.heap.size, grownCap w s.size 0 5, Lib.bytesCells w 5 s, (Lib.bytesCells w 5 s).size, (Lib.bytesCells w 5 s).size + 1, by rw [hl], hk, by rw [hW, Lib.bytesWorld_at_new], by rw [hl]; exact hge, by rw [hsz]; exact Nat.le_refl _, grownCap_le_maxLen w _ _ _ (by unfold maxLen; omega), fun j hj => by omega, ?_⟩)
  rw [hl]
  unfold Lib.bytesCells
  have : s.data.size = s.size := rfl
  rw [Array.toList_append, List.take_append_of_le_length (by simp), List.take_of_length_le (by simp)]
  simp [u8s]
theorem book_add {κ : Nat → Tag} {L : Lay} {w WB : World} {m : MW} (name : ByteArray) (text : List UInt8) (wr : Bool) (tv : Value) (h : WAt κ L w m) (hszB : w.heap.size ≤ WB.heap.size) (holdB : ∀ k, k < w.heap.size → WB.heap[k]? = w.heap[k]?) (h1 : WB.os = w.os) (h2 : WB.tape = w.tape) (h3 : WB.output = w.output)
    (htv : ∀ g, tv.ownBlock = some g → w.heap.size ≤ g ∧ g < WB.heap.size) (htx : ∀ (κ' : Nat → Tag) (W : World), (∀ g, tv.ownBlock = some g → κ' g = .tx m.next ∧ W.heap[g]? = WB.heap[g]?) → TxAt κ' (.tx m.next) W tv text) (hl : m.books.length < 67) (ht : text.length ≤ 1048576) :
    ∃ g cap WE κ' L', (Builtin.append_ #[54, 54] 54 #[L.vb, .slice (some ⟨WB.heap.size + 1, 0, none⟩) 1 1]).run Try.prog ((WB.alloc (.cells #[.string name, tv, .bool wr] 62)).alloc (.cells #[.pointer (some ⟨WB.heap.size, 0, none⟩)] 59)) = .ok (.slice (some ⟨g, 0, none⟩) (m.books.length + 1) cap) WE ∧
      (WE.cell? ⟨L.p, 0, none⟩ = some L.vb ∧ WE.frozen? ⟨L.p, 0, none⟩ = false) ∧ (L'.p = L.p ∧ L'.bk m.next = WB.heap.size) ∧ St κ w κ' L' (WE.setCell ⟨L.p, 0, none⟩ (.slice (some ⟨g, 0, none⟩) (m.books.length + 1) cap)) (m.addB name text wr) := by
  generalize hbc : (Obj.cells #[.string name, tv, .bool wr] 62) = bo
  generalize hWD : (WB.alloc bo).alloc (.cells #[.pointer (some ⟨WB.heap.size, 0, none⟩)] 59) = WD
  have hszC : (WB.alloc bo).heap.size = WB.heap.size + 1 := by simp
  have hszD : WD.heap.size = WB.heap.size + 2 := by rw [← hWD]; simp
  have hD : ∀ k, k < WB.heap.size → WD.heap[k]? = WB.heap[k]? := fun k hk => by
    rw [← hWD, Below.heap_alloc _ _ _ (by omega), Below.heap_alloc _ _ _ (by omega)]
  have holdD : ∀ k, k < w.heap.size → WD.heap[k]? = w.heap[k]? := fun k hk => (hD k (by omega)).trans (holdB k hk)
  have hbD : WD.heap[WB.heap.size]? = some bo := by
    rw [← hWD, Below.heap_alloc _ _ _ (by omega)]; exact blk_new _ _
  have hvD : WD.heap[WB.heap.size + 1]? = some (.cells #[.pointer (some ⟨WB.heap.size, 0, none⟩)] 59 (0, 0)) := by
    rw [← hWD, ← hszC]; exact blk_new _ _
  have hlt : ∀ g, L.vb.ownBlock = some g → g < w.heap.size := fun g hg => (h.rb.lt g hg).2
  have hownD : WD.ownsRow 0 59 1 L.vb m.books.length (m.books.map fun b => pt (L.bk b.id)) := ownsRow_of_block h.rb fun g hg => holdD g (hlt g hg)
  obtain ⟨v', WE, hr, hown, hgr, ho⟩ := append_ptr (t := 54) Try.underlying54 infoB L.vb m.books.length _ WD hownD (WB.heap.size + 1) (pt WB.heap.size) rfl ((blk_cell hvD 0).trans rfl) (by omega) 54
  rcases row_cases hown with ⟨rfl, h0⟩ | ⟨g, cap, rfl, _, _, _⟩
  · omega
  have hp : L.p < w.heap.size := h.lt (k := L.p) (by rw [h.tp]; exact Tag.noConfusion)
  have hgE : ∀ k, k < WD.heap.size → L.vb.ownBlock ≠ some k → WE.heap[k]? = WD.heap[k]? := fun k hk hn => hgr.block k hk (fun e => hn e.symm)
  have hnp : L.vb.ownBlock ≠ some L.p := fun e => by have := h.tb L.p e; rw [h.tp] at this; exact Tag.noConfusion this
  have hnew : ∀ k, w.heap.size ≤ k → L.vb.ownBlock ≠ some k := fun k hk e => by have := hlt k e; omega
  have hPE : WE.heap[L.p]? = some (.cells #[L.vb, L.vf] 57 (0, 0)) := by
    rw [hgE L.p (by omega) hnp, holdD L.p hp]; exact h.hp
  have hszE : WD.heap.size ≤ WE.heap.size := hgr.size
  have hset : (WE.setCell ⟨L.p, 0, none⟩ (.slice (some ⟨g, 0, none⟩) (m.books.length + 1) cap)).heap.size = WE.heap.size := by simp [World.setCell]
  have hfar : ∀ k, k ≠ L.p → (WE.setCell ⟨L.p, 0, none⟩ (.slice (some ⟨g, 0, none⟩) (m.books.length + 1) cap)).heap[k]? = WE.heap[k]? := fun k hk => Below.heap_setCell _ _ _ _ hk
  have hgp : g ≠ L.p := fun e => by
    rcases ho with ho | ho
    · exact hnp (by rw [← ho, e]; rfl)
    · have : g = WD.heap.size := by have := Option.some.inj ho; exact this
      omega
  have hdr : WD.os = w.os ∧ WD.tape = w.tape ∧ WD.output = w.output := by
    rw [← hWD]; exact ⟨h1, h2, h3⟩
  refine ⟨g, cap, WE, κB κ WB.heap.size m.next tv (.slice (some ⟨g, 0, none⟩) (m.books.length + 1) cap), L.addB WB.heap.size m.next tv (.slice (some ⟨g, 0, none⟩) (m.books.length + 1) cap), hr, ⟨(blk_cell hPE 0).trans rfl, blk_frozen hPE 0⟩, ⟨rfl, if_pos rfl⟩, WAt.addB h hl name text wr ht WB.heap.size tv (.slice (some ⟨g, 0, none⟩) (m.books.length + 1) cap) hszB ?_ ?_ (hgr.os.trans hdr.1) (hgr.tape.trans hdr.2.1) (hgr.output.trans hdr.2.2) (by rw [hset]; omega) ?_ ?_ ?_ ?_ ?_⟩
  · intro k hk
    have := htv k hk
    rw [hset]; omega
  · rcases ho with ho | ho
    · exact .inl ho
    · exact .inr ⟨_, ho, by omega, by omega, fun e => by have := htv _ e; omega⟩
  · rw [hfar _ (by omega), hgE _ (by omega) (hnew _ (by omega)), hbD, ← hbc]
  · intro κ' hκ'
    refine htx κ' _ fun k hk => ⟨hκ' k hk, ?_⟩
    have := htv k hk
    rw [hfar k (by omega), hgE k (by omega) (hnew k (by omega)), hD k (by omega)]
  · exact blk_put hPE 0 _ rfl
  · exact ownsRow_of_block hown fun k hk => hfar k (by have : g = k := Option.some.inj hk; rw [← this]; exact hgp)
  · intro k hk hkp hkv
    rw [hfar k hkp, hgE k (by omega) hkv, holdD k hk]
theorem new_add {κ : Nat → Tag} {L : Lay} {w WB : World} {m : MW} (x : ABk) (h : WAt κ L w m) (hWB : Lib.bytesWorld w.drew 5 x.text = WB) (hl : m.books.length < 67) (ht : x.text.size ≤ 1048576) :
    ∃ g cap WE κ' L', (Builtin.append_ #[54, 54] 54 #[L.vb, .slice (some ⟨WB.heap.size + 1, 0, none⟩) 1 1]).run Try.prog ((WB.alloc (.cells #[.string x.name, .slice (some ⟨w.heap.size, 0, none⟩) x.text.size (grownCap w.drew x.text.size 0 5), .bool x.write] 62)).alloc (.cells #[.pointer (some ⟨WB.heap.size, 0, none⟩)] 59)) = .ok (.slice (some ⟨g, 0, none⟩) (m.books.length + 1) cap) WE ∧
      (WE.cell? ⟨L.p, 0, none⟩ = some L.vb ∧ WE.frozen? ⟨L.p, 0, none⟩ = false) ∧ (L'.p = L.p ∧ L'.bk m.next = WB.heap.size) ∧ St κ w κ' L' (WE.setCell ⟨L.p, 0, none⟩ (.slice (some ⟨g, 0, none⟩) (m.books.length + 1) cap)) (m.addB x.name x.text.data.toList x.write) := by
  subst hWB
  refine book_add x.name x.text.data.toList x.write _ h (by rw [Lib.bytesWorld_size]; exact Nat.le_succ _) (fun k hk => Lib.bytesWorld_at_old w.drew _ _ k hk) rfl rfl rfl (fun g hg => ?_) (fun κ' W hW => ?_) hl (by simpa using ht)
  · have : w.heap.size = g := Option.some.inj hg
    rw [Lib.bytesWorld_size]
    exact ⟨by omega, by rw [← this]; exact Nat.lt_succ_self _⟩
  · obtain ⟨h1, h2⟩ := hW w.heap.size rfl
    exact bytes_tx w.drew x.text ht κ' _ W h1 h2
theorem std_add {κ : Nat → Tag} {L : Lay} {w : World} {m : MW} (name : ByteArray) (wr : Bool) (h : WAt κ L w m) (hl : m.books.length < 67) :
    ∃ g cap WE κ' L', (Builtin.append_ #[54, 54] 54 #[L.vb, .slice (some ⟨w.heap.size + 1, 0, none⟩) 1 1]).run Try.prog ((w.alloc (.cells #[.string name, .slice none 0 0, .bool wr] 62)).alloc (.cells #[.pointer (some ⟨w.heap.size, 0, none⟩)] 59)) = .ok (.slice (some ⟨g, 0, none⟩) (m.books.length + 1) cap) WE ∧
      (WE.cell? ⟨L.p, 0, none⟩ = some L.vb ∧ WE.frozen? ⟨L.p, 0, none⟩ = false) ∧ (L'.p = L.p ∧ L'.bk m.next = w.heap.size) ∧ St κ w κ' L' (WE.setCell ⟨L.p, 0, none⟩ (.slice (some ⟨g, 0, none⟩) (m.books.length + 1) cap)) (m.addB name [] wr) :=
  book_add name [] wr (.slice none 0 0) h (Nat.le_refl _) (fun _ _ => rfl) rfl rfl rfl (fun g hg => by cases hg) (fun _ _ _ => .inl ⟨rfl, rfl⟩) hl (Nat.zero_le _)
theorem step_append_runI {P : Program} {ops : Array Oper} {o : Oper} {a : Act} {w : World} {K : Act → World → Prop} {Q : Exit → Act → World → Prop} {E : Prop}
    (hg : o.guard = none) (d x : Operand) (dT sT : TypeId) (hop : o.op = Op.call { callee := Callee.builtin Builtin.append, args := #[d, x], argTypes := #[dT, sT] })
    (v u : Value) (hd : a.eval d = v) (hx : a.eval x = u) {v' : Value} {w' : World} (hr : (Builtin.append_ #[dT, sT] o.type #[v, u]).run P w = .ok v' w') (hK : K (a.put o.dst v') w') :
    if Region.wanted o (yielded ops a.tmps) = true then Oper.wp P o a w K Q else E := by
  have hw : Region.wanted o (yielded ops a.tmps) = true := by simp [Region.wanted, hg]
  rw [if_pos hw]
  unfold Oper.wp
  simp [execOp, hop, resolve, invoke, builtin, hd, hx, hr, Result.andThen]
  exact hK
/-! words for long drawing regions (made by my squeezes of the print's words) -/
theorem sx : (∀ (a : Act) (t : Tmp) (v : Value), a.put (some t) v = { a with tmps := a.tmps.setIfInBounds t v }) ∧ (∀ (a : Act) (v : Value), a.put none v = a) ∧ (∀ (l : List Value) (i : Nat) (a : Value), l.toArray.setIfInBounds i a = (l.set i a).toArray) ∧ (∀ (x : Value) (l : List Value) (a : Value), (x :: l).set 0 a = a :: l) ∧ (∀ (x : Value) (l : List Value) (i : Nat) (a : Value), (x :: l).set (i + 1) a = x :: l.set i a) := ⟨fun _ _ _ => rfl, fun _ _ => rfl, by simp, by simp, by simp⟩

def bl (n m : Nat) : Array Bool := ((List.range n).map fun i => m.testBit i).toArray
section
variable {P : Program} {ops : Array Oper} {Q : Exit → Act → World → Prop} {md : Region.Mode} {S : World → Prop} {ds : List Nat} {T : Bool × List (List Nat × List Nat)}
theorem pu {oi : Oper} {v : Value} {fuel : Nat} {l : Array Bool} {a a' : Act} {w : World} (i N : Nat) (l' : Array Bool) (HT : Aside0 (rtab md ops = T)) (h : wpAnyLast P md ops Q S ds fuel l' a' w)
    (hi : ops[i]? = some oi := by rfl) (hN : oi.dst = some N := by rfl) (hc : anyT T l.toList l'.toList i = true := by as_aux_lemma => kernel_rfl) (hQ : ∀ c a w, Q (.panic c) (a.put oi.dst v) w → Q (.panic c) a w := by exact fun _ _ _ h => h)
    (hw : Region.wanted oi (yielded ops a.tmps) = true := by as_aux_lemma => kernel_rfl) (hy : ∀ w, (execOp a.eval oi).run P w = .ok (.value v) w := by intro w'; go_simp; with_reducible rfl)
    (ha : a.put (some N) v = a' := by simp only [sx, i64_w, i32_w]; rfl) : wpAnyLast P md ops Q S ds (fuel + 1) l a w := pure_ l' hi hN (any_of HT.out hc) hQ (.inl ⟨hw, hy⟩) ha h
theorem pun {oi : Oper} {fuel : Nat} {l : Array Bool} {a a' : Act} {w : World} (i N : Nat) (l' : Array Bool) (HT : Aside0 (rtab md ops = T)) (h : wpAnyLast P md ops Q S ds fuel l' a' w)
    (hi : ops[i]? = some oi := by rfl) (hN : oi.dst = some N := by rfl) (hc : anyT T l.toList l'.toList i = true := by as_aux_lemma => kernel_rfl) (hQ : ∀ c a w, Q (.panic c) (a.put oi.dst undef) w → Q (.panic c) a w := by exact fun _ _ _ h => h)
    (hw : Region.wanted oi (yielded ops a.tmps) = false := by as_aux_lemma => kernel_rfl)
    (ha : a.put (some N) undef = a' := by simp only [sx, i64_w, i32_w]; rfl) : wpAnyLast P md ops Q S ds (fuel + 1) l a w := pure_ l' hi hN (any_of HT.out hc) hQ (.inr ⟨hw, rfl⟩) ha h
theorem ta {B : List Nat} {oi : Oper} {v : Value} {fuel : Nat} {l : Array Bool} {a a' : Act} {w : World} (i N : Nat) (l' : Array Bool) (HT : Aside0 (rtab md ops = T)) (HW : Aside0 (waitsOk T.2 B = true)) (hS : S w) (h : wpAnyLast P md ops Q S ds fuel l' a' w)
    (hi : ops[i]? = some oi := by rfl) (hN : oi.dst = some N := by rfl) (hc : takeW T B ds l.toList l'.toList i = true := by as_aux_lemma => kernel_rfl) (hQ : ∀ c a w, Q (.panic c) (a.put oi.dst v) w → Q (.panic c) a w := by exact fun _ _ _ h => h)
    (hw : Region.wanted oi (yielded ops a.tmps) = true := by as_aux_lemma => kernel_rfl) (hy : ∀ w, S w → (execOp a.eval oi).run P w = .ok (.value v) w := by intro w' hS; (try dsimp only at hS); go_simp; with_reducible rfl)
    (ha : a.put (some N) v = a' := by simp only [sx, i64_w, i32_w]; rfl) : wpAnyLast P md ops Q S ds (fuel + 1) l a w := take_ l' hi hN (take_ofW HT.out HW.out hc) hQ (.inl ⟨hw, hy⟩) hS ha h
end
def newBooks : List ABk → MW → List ABk → MW × Nat
  | _, m, [] => (m, 0)
  | pre, m, x :: r => match checkR x pre with
    | 0 => newBooks (pre ++ [x]) (m.addB x.name x.text.data.toList x.write) r
    | e + 1 => (m, e + 1)
def κ0 : Nat → Tag := fun _ => .no
def nameAt : Nat → ByteArray
  | 0 => ⟨#[115, 116, 97, 110, 100, 105, 110]⟩
  | 1 => ⟨#[115, 116, 97, 110, 100, 111, 117, 116]⟩
  | _ => ⟨#[115, 116, 97, 110, 100, 98, 97, 99, 107]⟩
def MW.stdF (m : MW) (b : MBk) : MW := if m.addN = 2 then (m.addF b.id).setF { freshF m.addN b.id with pos := b.text.length, mood := 2 } else m.addF b.id
def MW.std (m : MW) (i : Nat) (s : ByteArray) : MW :=
  match m.find s with
  | some b => m.stdF b
  | none => (m.addB s [] (decide (0 < i))).stdF ⟨m.next, s, [], decide (0 < i)⟩
def stdK : Nat → Nat → MW → MW
  | 0, _, m => m
  | n + 1, k, m => stdK n (k + 1) (m.std k (nameAt k))
def newR (bs : List ABk) : MW × Nat :=
  if 64 < bs.length then (⟨0, [], []⟩, 3) else
  match newBooks [] ⟨0, [], []⟩ bs with
  | (m, 0) => (stdK 3 0 m, 0)
  | (m, e + 1) => (m, e + 1)
theorem cell_al {w : World} {o : Obj} {y : Addr} {v : Value} (h : w.cell? y = some v) : (w.alloc o).cell? y = some v :=
  (World.cell?_of_block (Below.heap_alloc w o y.block (World.block_lt_of_cell? w _ h))).trans h
theorem cell_old {w w' : World} {y : Addr} {v : Value} (hw : ∀ k, k < w.heap.size → w'.heap[k]? = w.heap[k]?) (h : w.cell? y = some v) : w'.cell? y = some v :=
  (World.cell?_of_block (hw y.block (World.block_lt_of_cell? w _ h))).trans h
def nw_T : Bool × List (List Nat × List Nat) := (true, [([], []), ([], []), ([1], [1]), ([2], [2]), ([3], [3]), ([], []), ([5], [5]), ([], []), ([7], [7]), ([8], [8]), ([], []), ([10], [10]), ([6, 9, 11], [6, 9, 11]), ([12], [12]), ([13], [13]), ([4, 14], [4, 14]), ([0, 0, 1, 2, 3, 4, 5, 6, 7, 8, 9, 10, 11, 12, 13, 14, 15], [0]), ([16, 0, 1, 2, 3, 4, 5, 6, 7, 8, 9, 10, 11, 12, 13, 14, 15], [16]), ([17, 15, 15, 0, 1, 2, 3, 4, 5, 6, 7, 8, 9, 10, 11, 12, 13, 14, 15], [15, 17])])
def nw_B : List Nat := [0, 0, 2, 6, 14, 0, 32, 0, 128, 384, 0, 1024, 4064, 8160, 16352, 32766, 65535, 131071, 262143]
theorem checkR_ok {x : ABk} {bs : List ABk} (h : checkR x bs = 0) : x.text.size ≤ 1048576 := by
  unfold checkR at h
  split at h
  · omega
  · split at h
    · omega
    · split at h
      · omega
      · split at h
        · omega
        · omega
theorem St.older {κ : Nat → Tag} {L : Lay} {w w' : World} {m : MW} (h : St κ0 w κ L w' m) : Below w.heap.size w w' := ⟨h.2.os, h.2.tape, h.2.output, h.2.size, fun k hk => h.2.block k hk rfl⟩
def NewPost (w : World) (M : MW) (E : Nat) (e : Ending) (w' : World) : Prop :=
  (E = 0 ∧ ∃ κ L, e = .returned (.tuple #[pt L.p, .int .i64 0]) ∧ St κ0 w κ L w' M) ∨ (E ≠ 0 ∧ e = .returned (.tuple #[.pointer none, .int .i64 E]) ∧ Below w.heap.size w w')
theorem nx_keep {κ κ' : Nat → Tag} {w w' : World} {k : Nat} {o : Obj} (h : Nx κ w κ' w') (h0 : κ k = .no ∧ k < w.heap.size ∧ w.heap[k]? = some o) : κ' k = .no ∧ k < w'.heap.size ∧ w'.heap[k]? = some o :=
  ⟨(h.tag k h0.2.1).2 h0.1, Nat.lt_of_lt_of_le h0.2.1 h.size, (h.block k h0.2.1 h0.1).trans h0.2.2⟩
theorem new_start (w : World) : St κ0 w (fun k => if k = w.heap.size then .wd else .no) ⟨w.heap.size, .slice none 0 0, .slice none 0 0, fun _ => 0, fun _ => .slice none 0 0, fun _ => 0⟩ (w.alloc (.cells #[.slice none 0 0, .slice none 0 0] 57)) ⟨0, [], []⟩ := by
  have hs : (w.alloc (.cells #[.slice none 0 0, .slice none 0 0] 57)).heap.size = w.heap.size + 1 := by simp
  refine ⟨⟨⟨Nat.zero_le _, Nat.zero_le _, List.nodup_nil, (fun _ h => absurd h List.not_mem_nil), (fun _ h => absurd h List.not_mem_nil), List.Pairwise.nil, (fun _ h => absurd h List.not_mem_nil), (fun _ h => absurd h List.not_mem_nil)⟩, if_pos rfl, blk_new _ _, World.ownsRow_nil .., (fun g hg => by cases hg), World.ownsRow_nil .., (fun g hg => by cases hg), (fun _ h => absurd h List.not_mem_nil), (fun _ h => absurd h List.not_mem_nil), (fun _ h => absurd h List.not_mem_nil), (fun _ h => absurd h List.not_mem_nil), (fun _ h => absurd h List.not_mem_nil), (fun k hk => if_neg (by omega))⟩, ⟨rfl, rfl, rfl, by omega, (fun k hk _ => Below.heap_alloc _ _ _ hk), (fun k hk => ?_)⟩⟩
  show (if k = w.heap.size then Tag.wd else Tag.no) = .no ↔ _
  rw [if_neg (by omega)]
  exact Iff.rfl
theorem new_walk (bs : List ABk) (a : Option Addr) (cap : Nat) (w : World) (hn : ∀ x ∈ bs, x.name.size ≤ 9223372036854775807 ∧ x.text.size ≤ 9223372036854775807) (hlen : bs.length ≤ 9223372036854775807) (hA : AAt w a bs) (hcap : bs.length ≤ cap) (hcm : cap ≤ maxLen) (M : MW) (E : Nat) (hr : newR bs = (M, E)) :
    Calls Try.prog 8 #[.slice a bs.length cap] w (NewPost w M E) := by
  unfold newR at hr
  by_cases hbig : 64 < bs.length
  · rw [if_pos hbig] at hr
    obtain ⟨-, rfl⟩ := Prod.mk.inj hr
    have hbig' : (64 : Int) < (bs.length : Int) := by omega
    clear hA hr
    go_enter Try.func8, Try.ntmps8
    go_wp2
    go_ret2
    exact .inr ⟨by decide, rfl, Below.refl _ _⟩
  rw [if_neg hbig] at hr
  have hlen : bs.length ≤ 64 := by omega
  have HM := Aside0.mk hr
  clear hr
  have HA := Aside0.mk hA
  have HN := Aside0.mk hn
  have hcm' : cap ≤ 9223372036854775807 := hcm
  have hl' : ¬ (64 < bs.length) := by omega
  have hW0 := new_start w
  have HW0 := Aside0.mk hW0
  clear hA hn hcm hW0
  go_enter Try.func8, Try.ntmps8
  go_wp2
  generalize hp : w.heap.size = p at *
  go_loopw [19] (fun i wr => ∃ (k : Nat) (κ : Nat → Tag) (L : Lay) (m : MW), k ≤ bs.length ∧ i = .int .i64 k ∧ L.p = p ∧ m.books.length = k ∧ m.files.length = 0 ∧ Aside0 (St κ0 w κ L wr m) ∧ Aside0 (newBooks (bs.take k) m (bs.drop k) = newBooks [] ⟨0, [], []⟩ bs)) (fun i _ => bs.length - (intOf i).toNat)
  case atStart => exact ⟨0, _, _, _, Nat.zero_le _, rfl, rfl, rfl, rfl, HW0, ⟨rfl⟩⟩
  case round =>
    obtain ⟨k, κ, L, m, hk, rfl, hL, hmk, hmf, HS, HR⟩ := hrel
    by_cases hlt : k < bs.length
    · have hc := (HA.out.below HS.out.older) k hlt
      obtain ⟨g, o, rfl, h0, h1, h2⟩ := hc
      have hmem := Aside0.mk (HN.out _ (List.getElem_mem hlt))
      have hsn : bs.drop k = bs[k] :: bs.drop (k + 1) := List.drop_eq_getElem_cons hlt
      have hst : bs.take (k + 1) = bs.take k ++ [bs[k]] := List.take_succ_eq_append_getElem hlt
      rw [hsn] at HR
      have HR' : Aside0 ((match checkR bs[k] (bs.take k) with | 0 => newBooks (bs.take (k + 1)) (m.addB bs[k].name bs[k].text.data.toList bs[k].write) (bs.drop (k + 1)) | e + 1 => (m, e + 1)) = newBooks [] ⟨0, [], []⟩ bs) := ⟨by rw [hst]; exact HR.out⟩
      clear hsn hst HR
      generalize bs[k] = x at *
      go_upto_region 7 with fail
      have HX := (bxs_nil wr).push x.cells 26
      unfold ABk.cells at HX
      generalize wr.alloc _ = W1 at *
      have y0 : W1.cell? ⟨wr.heap.size, 0, none⟩ = some (.string x.name) := (blk_cell HX.get 0).trans rfl
      have y1 : W1.cell? ⟨wr.heap.size, 1, none⟩ = some (.string x.text) := (blk_cell HX.get 1).trans rfl
      have y2 : W1.cell? ⟨wr.heap.size, 2, none⟩ = some (.bool x.write) := (blk_cell HX.get 2).trans rfl
      have HX1 := Aside0.mk HX
      have htl : (bs.take k).length = k := by rw [List.length_take]; omega
      have hA1 : AAt W1 (some ⟨g, o, none⟩) bs := (HA.out.below HS.out.older).below HX.b
      obtain ⟨R, hR⟩ : ∃ R, checkR x (bs.take k) = R := ⟨_, rfl⟩
      have HCK := Aside0.mk (fun (W : World) (hW : Below W1.heap.size W1 W) => check_walk x (bs.take k) (some ⟨g, o, none⟩) cap W hmem.out.1 hmem.out.2 (by omega) ((hA1.below hW).take k) R hR)
      rw [htl] at HCK
      rw [hR] at HR'
      clear HX htl hA1
      generalize hq : wr.heap.size = q at *
      go_cut [7] (fun s7 wx => s7 = .int .i64 R ∧ Aside0 (Bxs wr wx [(q, #[.string x.name, .string x.text, .bool x.write], 26)]))
      case first =>
        go_region_with ((go_at_call 25; refine (HCK.out _ (below_drew1 (Below.refl _ _))).mono ?_; rintro e w2 ⟨rfl, hb⟩))
        all_goals (go_wp2; go_meet)
        all_goals exact ⟨rfl, ⟨HX1.out.next (below_step (below_drew1 (Below.refl _ _)) hb)⟩⟩
      case rest =>
        obtain ⟨rfl, HX⟩ := hcut
        clear y0 y1 y2 HX1 HCK
        have hbx := HX.out.b
        have HSx := Aside0.mk (HS.out.below hbx)
        obtain ⟨x0, x1, x2⟩ : wc.cell? ⟨q, 0, none⟩ = some (.string x.name) ∧ wc.cell? ⟨q, 1, none⟩ = some (.string x.text) ∧ wc.cell? ⟨q, 2, none⟩ = some (.bool x.write) := ⟨(blk_cell HX.out.get 0).trans rfl, (blk_cell HX.out.get 1).trans rfl, (blk_cell HX.out.get 2).trans rfl⟩
        clear hbx h0 h1 h2
        cases R with
        | succ e =>
          have hne : ¬ ((e + 1 : Nat) : Int) = 0 := by omega
          obtain rfl : e + 1 = E := by
            have := HM.out; rw [← HR'.out] at this; exact (Prod.mk.inj this).2
          go_wp2
          go_ret2
          exact .inr ⟨by omega, rfl, HSx.out.older⟩
        | zero =>
          have ht := checkR_ok hR
          have hadd := new_add x HSx.out.1 rfl (by omega) ht
          have hconv := Lib.run_convert_string_bytes (P := Try.prog) wc.drew 9 60 5 x.text Try.underlying9 Try.underlying60 Try.underlying5
          have hWB : True ∧ (Lib.bytesWorld wc.drew 5 x.text).heap.size = wc.heap.size + 1 ∧ ∀ k, k < wc.heap.size → (Lib.bytesWorld wc.drew 5 x.text).heap[k]? = wc.heap[k]? := ⟨trivial, Lib.bytesWorld_size .., fun k hk => Lib.bytesWorld_at_old wc.drew _ _ k hk⟩
          generalize Lib.bytesWorld wc.drew 5 x.text = WB at *
          obtain ⟨g2, cap2, WE, κ', L', hr, ⟨zE, fE⟩, hLp, hst⟩ := hadd
          have HE := Aside0.mk hst
          have hz := (HSx.out.1.head).1.1
          rw [hL] at hz zE fE hst
          have HRUN := Aside0.mk hr
          clear hr hst
          have bz := cell_old hWB.2.2 hz
          have b0 := cell_old hWB.2.2 x0
          have b1 := cell_old hWB.2.2 x1
          have b2 := cell_old hWB.2.2 x2
          clear hWB
          go_upto_region 10 with fail
          refine start_ (n := 19) (S := fun w' => w'.cell? ⟨p, 0, none⟩ = some L.vb ∧ w'.cell? ⟨q, 0, none⟩ = some (.string x.name) ∧ w'.cell? ⟨q, 1, none⟩ = some (.string x.text) ∧ w'.cell? ⟨q, 2, none⟩ = some (.bool x.write)) (ds := [15, 18]) (bl 19 0) (by kernel_rfl) (by kernel_rfl) (by kernel_rfl) (⟨hz, x0, x1, x2⟩) (fun hHeld => ?_)
          refine with_tabW (T := nw_T) (B := nw_B) (by as_aux_lemma => kernel_rfl) (by as_aux_lemma => kernel_rfl) (fun HT_ HW_ => ?_)
          refine pu 0 32 (bl 19 0x1) HT_ ?_
          refine pu 1 33 (bl 19 0x3) HT_ ?_
          refine pu 2 34 (bl 19 0x7) HT_ ?_
          refine pu 3 35 (bl 19 0xf) HT_ ?_
          refine ta 4 36 (bl 19 0x1f) HT_ HW_ hHeld ?_
          refine pu 5 37 (bl 19 0x3f) HT_ ?_
          refine ta 6 38 (bl 19 0x7f) HT_ HW_ hHeld ?_
          refine pu 7 39 (bl 19 0xff) HT_ ?_
          refine ta 8 40 (bl 19 0x1ff) HT_ HW_ hHeld ?_
          refine pu 10 42 (bl 19 0x5ff) HT_ ?_
          refine ta 11 43 (bl 19 0xdff) HT_ HW_ hHeld ?_
          refine one_ (i := 9) (N := some 41) (bl 19 0xfff) rfl rfl (one_of HT_.out (by as_aux_lemma => kernel_rfl)) (by decide) (fun K hK => ?_)
          rw [if_pos (by as_aux_lemma => kernel_rfl)]
          go_simp
          refine hK.out _ _ (⟨bz, b0, b1, b2⟩) (fun hHeld => ?_)
          clear hK K
          refine pu 12 44 (bl 19 0x1fff) HT_ ?_
          refine one_ (i := 13) (N := some 45) (bl 19 0x3fff) rfl rfl (one_of HT_.out (by as_aux_lemma => kernel_rfl)) (by decide) (fun K hK => ?_)
          rw [if_pos (by as_aux_lemma => kernel_rfl)]
          go_simp
          refine hK.out _ _ (⟨cell_al bz, cell_al b0, cell_al b1, cell_al b2⟩) (fun hHeld => ?_)
          clear hK K
          refine one_ (i := 14) (N := some 46) (bl 19 0x7fff) rfl rfl (one_of HT_.out (by as_aux_lemma => kernel_rfl)) (by decide) (fun K hK => ?_)
          rw [if_pos (by as_aux_lemma => kernel_rfl)]
          go_simp
          refine hK.out _ _ (⟨cell_al (cell_al bz), cell_al (cell_al b0), cell_al (cell_al b1), cell_al (cell_al b2)⟩) (fun hHeld => ?_)
          clear hK K
          refine last_ (i := 15) (N := some 47) (bl 19 0xffff) rfl rfl (one_of HT_.out (by as_aux_lemma => kernel_rfl)) (by decide) (fun K hK => ?_)
          rw [if_pos (by as_aux_lemma => kernel_rfl)]
          refine Lib.wp_append_run _ (.tmp 36) (.tmp 46) 54 54 rfl L.vb (.slice (some ⟨WB.heap.size + 1, 0, none⟩) 1 1) ?_ ?_ (.slice (some ⟨g2, 0, none⟩) (m.books.length + 1) cap2) WE ?_ ?_
          · rfl
          · rfl
          · exact HRUN.out
          refine hK.out _ _ ?_
          clear hK K
          refine pu 16 48 (bl 19 0x1ffff) HT_ ?_
          refine pu 17 49 (bl 19 0x3ffff) HT_ ?_
          refine last_ (i := 18) (N := none) (bl 19 0x7ffff) rfl rfl (one_of HT_.out (by as_aux_lemma => kernel_rfl)) (by decide) (fun K hK => ?_)
          rw [if_pos (by as_aux_lemma => kernel_rfl)]
          go_simp
          refine hK.out _ _ ?_
          clear hK K
          refine done_ (done_of HT_.out (by as_aux_lemma => kernel_rfl)) ?_
          have HR2 : Aside0 (newBooks (bs.take (k + 1)) (m.addB x.name x.text.data.toList x.write) (bs.drop (k + 1)) = newBooks [] ⟨0, [], []⟩ bs) := HR'
          have hml : (m.addB x.name x.text.data.toList x.write).books.length = k + 1 := by show (m.books ++ [_]).length = _; rw [List.length_append, hmk]; rfl
          have HE2 := Aside0.mk (HSx.out.then HE.out)
          rw [hL, hmk] at HE2
          clear HRUN HE zE fE bz b0 b1 b2 x0 x1 x2
          go_wp2
          go_roundw
          case rel => exact ⟨k + 1, κ', L', _, by omega, by go_num, hLp.1.trans hL, hml, hmf, HE2, HR2⟩
          case measure => simp [intOf]; omega
    · obtain rfl : k = bs.length := by omega
      have hR := HR.out
      rw [List.drop_length] at hR
      have hM := HM.out
      rw [← hR] at hM
      obtain ⟨rfl, rfl⟩ : stdK 3 0 m = M ∧ 0 = E := Prod.mk.inj hM
      clear HR HM hR hM
      go_wp2
      have hsb := blk_new wr (.cells #[.string ⟨#[115, 116, 97, 110, 100, 105, 110]⟩, .string ⟨#[115, 116, 97, 110, 100, 111, 117, 116]⟩, .string ⟨#[115, 116, 97, 110, 100, 98, 97, 99, 107]⟩] 9)
      have hno : κ wr.heap.size = .no := HS.out.1.top _ (Nat.le_refl _)
      have HS1 := Aside0.mk (HS.out.below (below_alloc (Below.refl _ _) (.cells #[.string ⟨#[115, 116, 97, 110, 100, 105, 110]⟩, .string ⟨#[115, 116, 97, 110, 100, 111, 117, 116]⟩, .string ⟨#[115, 116, 97, 110, 100, 98, 97, 99, 107]⟩] 9)))
      generalize wr.alloc (.cells #[.string ⟨#[115, 116, 97, 110, 100, 105, 110]⟩, .string ⟨#[115, 116, 97, 110, 100, 111, 117, 116]⟩, .string ⟨#[115, 116, 97, 110, 100, 98, 97, 99, 107]⟩] 9) = W2 at *
      generalize wr.heap.size = sb at *
      have HSB : Aside0 (κ sb = .no ∧ sb < W2.heap.size ∧ W2.heap[sb]? = some (.cells #[.string (nameAt 0), .string (nameAt 1), .string (nameAt 2)] 9 (0, 0))) := ⟨⟨hno, blk_lt hsb, hsb⟩⟩
      have hlen2 : m.books.length ≤ 64 + 0 := by omega
      have hf0 : m.files.length ≤ 0 := by omega
      clear HS hsb hno
      go_loopw [53] (fun i wx => ∃ (j : Nat) (κ : Nat → Tag) (L : Lay) (m1 : MW), j ≤ 3 ∧ i = .int .i64 j ∧ L.p = p ∧ m1.books.length ≤ 64 + j ∧ m1.files.length ≤ j ∧ Aside0 (St κ0 w κ L wx m1) ∧ Aside0 (κ sb = .no ∧ sb < wx.heap.size ∧ wx.heap[sb]? = some (.cells #[.string (nameAt 0), .string (nameAt 1), .string (nameAt 2)] 9 (0, 0))) ∧ Aside0 (stdK (3 - j) j m1 = stdK 3 0 m)) (fun i _ => 3 - (intOf i).toNat)
      case atStart => exact ⟨0, κ, L, m, by omega, rfl, hL, hlen2, hf0, HS1, HSB, ⟨rfl⟩⟩
      case round =>
        obtain ⟨j, κ1, L1, m1, hj, rfl, hL1, hb1, hf1, HS2, HSB2, HK⟩ := hrel
        clear HSB HS1 hlen2 hf0
        by_cases hlt2 : j < 3
        · obtain ⟨s, hs⟩ : ∃ s, s = nameAt j := ⟨_, rfl⟩
          have hc : wr.cell? ⟨sb, j, none⟩ = some (.string s) := by
            rw [hs]
            have : j = 0 ∨ j = 1 ∨ j = 2 := by omega
            rcases this with rfl | rfl | rfl <;> exact (blk_cell HSB2.out.2.2 _).trans rfl
          have HF := Aside0.mk (find_walk s wr HS2.out.1 _ rfl)
          have HK' : Aside0 (stdK (3 - (j + 1)) (j + 1) (m1.std j s) = stdK 3 0 m) := ⟨by
            rw [← HK.out, hs]
            have : j = 0 ∨ j = 1 ∨ j = 2 := by omega
            rcases this with rfl | rfl | rfl <;> rfl⟩
          unfold pt at HF
          rw [hL1] at HF
          obtain ⟨pa, hpa⟩ : ∃ pa, findV L1 (m1.find s) = .pointer pa := by cases m1.find s <;> exact ⟨_, rfl⟩
          rw [hpa] at HF
          have HPA := Aside0.mk hpa
          have HKK := HK'
          clear HK hs hpa
          go_wp2_with fail
          refine HF.out.mono ?_
          rintro e w' ⟨rfl, rfl⟩
          go_upto_if 62 with fail
          go_cut [10] (fun s10 wx => ∃ (κ2 : Nat → Tag) (L2 : Lay) (m2 : MW) (b : MBk), L2.p = p ∧ s10 = .pointer (some ⟨L2.bk b.id, 0, none⟩) ∧ b ∈ m2.books ∧ m2.books.length ≤ 64 + j + 1 ∧ m2.files.length ≤ j ∧ Aside0 (St κ0 w κ2 L2 wx m2) ∧ Aside0 (κ2 sb = .no ∧ sb < wx.heap.size ∧ wx.heap[sb]? = some (.cells #[.string (nameAt 0), .string (nameAt 1), .string (nameAt 2)] 9 (0, 0))) ∧ Aside0 (m2.stdF b = m1.std j s))
          case first =>
            cases hfind : m1.find s with
            | some b =>
              have hb := (MW.find_mem hfind).1
              have HB := Aside0.mk hb
              have HD : Aside0 (m1.stdF b = m1.std j s) := ⟨by unfold MW.std; rw [hfind]⟩
              obtain rfl : some ⟨L1.bk b.id, 0, none⟩ = pa := by have := HPA.out; rw [hfind] at this; exact Value.pointer.inj this
              clear hfind hb HK' hc HPA
              go_wp2
              go_meet
              exact ⟨κ1, L1, m1, b, hL1, rfl, HB.out, by omega, hf1, HS2, HSB2, HD⟩
            | none =>
              have HD : Aside0 ((m1.addB s [] (decide (0 < j))).stdF ⟨m1.next, s, [], decide (0 < j)⟩ = m1.std j s) := ⟨by unfold MW.std; rw [hfind]⟩
              obtain ⟨g, cap1, WE, κ', L', hr, ⟨zE, fE⟩, hLp, hst⟩ := std_add s (decide (0 < j)) HS2.out.1 (by omega)
              have hz := (HS2.out.1.head).1.1
              rw [hL1] at hz zE fE hst
              have HE := Aside0.mk (HS2.out.then hst)
              have hplt : p < wr.heap.size := block_lt_of_cell hz
              have hpne : p ≠ wr.heap.size := by omega
              have HSB3 := Aside0.mk (nx_keep hst.2 HSB2.out)
              have HRUN := Aside0.mk hr
              obtain rfl : none = pa := by have := HPA.out; rw [hfind] at this; exact Value.pointer.inj this
              clear hr hst hfind HK' hc HPA
              go_wp2_with (at_builtin; refine Lib.wpList_append_run _ rfl _ _ _ _ rfl _ _ rfl rfl _ _ HRUN.out ?_)
              go_meet
              exact ⟨κ', L', m1.addB s [] (decide (0 < j)), ⟨m1.next, s, [], decide (0 < j)⟩, hLp.1.trans hL1, by rw [show L'.bk m1.next = wr.heap.size from hLp.2], List.mem_append_right _ (List.mem_singleton.2 rfl), by show (m1.books ++ [_]).length ≤ _; rw [List.length_append, List.length_singleton]; omega, hf1, HE, HSB3, HD⟩
          case rest =>
            obtain ⟨κ2, L2, m2, b, hL2, rfl, hb, hb2, hf2, HS3, HSB3, HD⟩ := hcut
            have HB := Aside0.mk hb
            have HA2 := Aside0.mk (add_walk wc HS3.out.1 hb (by omega))
            have hlen3 : (m2.addF b.id).files.length = m2.files.length + 1 := by
              obtain ⟨l1, l2, e1, e2, _⟩ := add_split HS3.out.1.ok b.id
              rw [e2, e1]; simp only [List.length_append, List.length_cons]; omega
            have hmem := Aside0.mk (addF_mem HS3.out.1.ok b.id)
            unfold pt at HA2
            rw [hL2] at HA2
            clear hb HS2 HSB2 HK' hc
            go_wp2_with fail
            refine HA2.out.mono ?_
            rintro e w4 ⟨κ3, L3, hp3, hbk3, htv3, _, rfl, hst⟩
            have HS4 := Aside0.mk (HS3.out.then hst)
            have HSB4 := Aside0.mk (nx_keep hst.2 HSB3.out)
            clear HS3 HSB3 HA2
            have zn : w4.cell? ⟨L3.fl m2.addN, 0, none⟩ = some (.int .i64 m2.addN) := (HS4.out.1.fc hmem.out).1.1
            by_cases h2 : m2.addN = 2
            · have hbm : b ∈ (m2.addF b.id).books := HB.out
              have zt := (HS4.out.1.bc hbm).1.2.1
              obtain ⟨ta, tc, htl, _, _, _⟩ := (HS4.out.1.tx b hbm).sl
              rw [htl, hbk3] at zt
              have hbl := HS4.out.1.ok.tx b hbm
              have hst5 := HS4.out.1.put23 hmem.out b.text.length 2 hbl
              have q2 : w4.cell? ⟨L3.fl m2.addN, 2, none⟩ = some (.int .i64 0) := (HS4.out.1.fc hmem.out).1.2.2.1
              have q3 : w4.cell? ⟨L3.fl m2.addN, 3, none⟩ = some (.int .i64 0) := (HS4.out.1.fc hmem.out).1.2.2.2
              have f2 : w4.frozen? ⟨L3.fl m2.addN, 2, none⟩ = false := (HS4.out.1.fc hmem.out).2.1
              have f3 : w4.frozen? ⟨L3.fl m2.addN, 3, none⟩ = false := (HS4.out.1.fc hmem.out).2.2
              have HS5 : Aside0 (St κ0 w κ3 L3 ((w4.setCell ⟨L3.fl m2.addN, 2, none⟩ (.int .i64 b.text.length)).setCell ⟨L3.fl m2.addN, 3, none⟩ (.int .i64 2)) ((m2.addF b.id).setF { freshF m2.addN b.id with pos := b.text.length, mood := 2 })) := ⟨HS4.out.then hst5⟩
              have HSB5 : Aside0 (κ3 sb = .no ∧ sb < ((w4.setCell ⟨L3.fl m2.addN, 2, none⟩ (.int .i64 b.text.length)).setCell ⟨L3.fl m2.addN, 3, none⟩ (.int .i64 2)).heap.size ∧ ((w4.setCell ⟨L3.fl m2.addN, 2, none⟩ (.int .i64 b.text.length)).setCell ⟨L3.fl m2.addN, 3, none⟩ (.int .i64 2)).heap[sb]? = some (.cells #[.string (nameAt 0), .string (nameAt 1), .string (nameAt 2)] 9 (0, 0))) := ⟨nx_keep hst5.2 HSB4.out⟩
              have HD2 : Aside0 ((m2.addF b.id).setF { freshF m2.addN b.id with pos := b.text.length, mood := 2 } = m1.std j s) := ⟨by rw [← HD.out]; unfold MW.stdF; rw [if_pos h2]⟩
              have hgb : L2.bk b.id ≠ L3.fl m2.addN := by
                have q1 := HS4.out.1.kb b hbm
                rw [hbk3] at q1
                exact tne q1 (HS4.out.1.kf _ hmem.out) Tag.noConfusion
              clear htl hst hst5 HS4 HSB4 hbm
              generalize L3.fl m2.addN = fb at *
              go_wp2
              go_roundw
              case rel => exact ⟨j + 1, κ3, L3, _, by omega, by go_num, hp3, by show m2.books.length ≤ _; omega, by show ((m2.addF b.id).files.map _).length ≤ _; rw [List.length_map]; omega, HS5, HSB5, ⟨by rw [HD2.out]; exact HKK.out⟩⟩
              case measure => simp [intOf]; omega
            · have HD2 : Aside0 (m2.addF b.id = m1.std j s) := ⟨by rw [← HD.out]; unfold MW.stdF; rw [if_neg h2]⟩
              have h2' : ¬ ((m2.addN : Int) = 2) := by omega
              clear hst HD
              go_wp2
              go_roundw
              case rel => exact ⟨j + 1, κ3, L3, m2.addF b.id, by omega, by go_num, hp3, by show m2.books.length ≤ _; omega, by omega, HS4, HSB4, ⟨by rw [HD2.out]; exact HKK.out⟩⟩
              case measure => simp [intOf]; omega
        · obtain rfl : j = 3 := by omega
          have hm : m1 = stdK 3 0 m := HK.out
          go_wp2
          go_ret2
          exact .inl ⟨rfl, κ1, L1, by unfold pt; rw [hL1]; rfl, by rw [← hm]; exact HS2.out⟩
def awB : ABk := ⟨⟨#[105, 110]⟩, ⟨#[97, 98, 10, 12, 99]⟩, false⟩
def aw0 : MW := (newR [awB]).1
def aw1 : MW := (aw0.openB ⟨#[105, 110]⟩).1
def aw2 : MW := (aw1.read 4 true).1
def aw3 : MW := (aw2.read 4 true).1
def aw4 : MW := (aw3.read 4 true).1
def aw5 : MW := (aw4.read 4 true).1
theorem aw_0 : newR [awB] = (aw0, 0) := Prod.ext rfl (by decide +kernel)
theorem aw_1 : aw0.openB ⟨#[105, 110]⟩ = (aw1, 4, 0) := Prod.ext rfl (by decide +kernel)
theorem aw_2 : aw1.read 4 true = (aw2, 97, 0) := Prod.ext rfl (by decide +kernel)
theorem aw_3 : aw2.read 4 true = (aw3, 98, 0) := Prod.ext rfl (by decide +kernel)
theorem aw_4 : aw3.read 4 true = (aw4, 99, 0) := Prod.ext rfl (by decide +kernel)
theorem aw_5 : aw4.read 4 true = (aw5, 0, 22) := Prod.ext rfl (by decide +kernel)
theorem aw_6 : aw5.position 4 = (2, 1, 2, 0) := by decide +kernel
theorem awake_walk (w : World) : Calls Try.prog 5 #[] w fun e w' => e = .returned (.bool true) ∧ Below w.heap.size w w' := by
  have hb := blk_new w (.cells #[.string ⟨#[105, 110]⟩, .string ⟨#[97, 98, 10, 12, 99]⟩, .bool false] 26)
  have hA : AAt (w.alloc (.cells #[.string ⟨#[105, 110]⟩, .string ⟨#[97, 98, 10, 12, 99]⟩, .bool false] 26)) (some ⟨w.heap.size, 0, none⟩) [awB] := by
    intro i hi
    obtain rfl : i = 0 := by simpa using hi
    exact ⟨w.heap.size, 0, rfl, (blk_cell hb 0).trans rfl, (blk_cell hb 1).trans rfl, (blk_cell hb 2).trans rfl⟩
  have HN := Aside0.mk (new_walk [awB] _ 1 _ (fun x hx => by obtain rfl := List.mem_singleton.1 hx; exact ⟨by decide, by decide⟩) (by decide) hA (Nat.le_refl _) (by decide) aw0 0 aw_0)
  have HB := Aside0.mk (below_alloc (Below.refl w.heap.size w) (.cells #[.string ⟨#[105, 110]⟩, .string ⟨#[97, 98, 10, 12, 99]⟩, .bool false] 26))
  clear hb hA
  go_enter Try.func5, Try.ntmps5
  go_wp2_with fail
  refine HN.out.mono ?_
  rintro e w1 (⟨-, κ, L, rfl, h1⟩ | ⟨h, _⟩)
  · unfold pt
    have H1 := Aside0.mk h1
    have HO := Aside0.mk (open_walk ⟨#[105, 110]⟩ w1 h1.1 4 0 aw_1)
    clear h1
    unfold pt at HO
    go_wp2_with fail
    refine HO.out.mono ?_
    rintro e w2 ⟨rfl, κ2, L2, hp2, h2⟩
    have H2 := Aside0.mk (H1.out.then h2)
    have HG := Aside0.mk (get_walk 4 w2 h2.1 97 0 aw_2)
    clear h2 HO H1 HN
    unfold pt at HG
    rw [hp2] at HG
    go_wp2_with fail
    refine HG.out.mono ?_
    rintro e w3 ⟨rfl, h3⟩
    have H3 := Aside0.mk (H2.out.then h3)
    have HG3 := Aside0.mk (get_walk 4 w3 h3.1 98 0 aw_3)
    clear h3 HG H2
    unfold pt at HG3
    rw [hp2] at HG3
    go_wp2_with fail
    refine HG3.out.mono ?_
    rintro e w4 ⟨rfl, h4⟩
    have H4 := Aside0.mk (H3.out.then h4)
    have HG4 := Aside0.mk (get_walk 4 w4 h4.1 99 0 aw_4)
    clear h4 HG3 H3
    unfold pt at HG4
    rw [hp2] at HG4
    go_wp2_with fail
    refine HG4.out.mono ?_
    rintro e w5 ⟨rfl, h5⟩
    have H5 := Aside0.mk (H4.out.then h5)
    have HG5 := Aside0.mk (get_walk 4 w5 h5.1 0 22 aw_5)
    clear h5 HG4 H4
    unfold pt at HG5
    rw [hp2] at HG5
    go_wp2_with fail
    refine HG5.out.mono ?_
    rintro e w6 ⟨rfl, h6⟩
    have H6 := Aside0.mk (H5.out.then h6)
    have HP := Aside0.mk (position_walk 4 w6 h6.1 2 1 2 0 aw_6)
    clear h6 HG5 H5
    unfold pt at HP
    rw [hp2] at HP
    go_wp2_with fail
    refine HP.out.mono ?_
    rintro e w7 ⟨rfl, h7⟩
    have H7 := Aside0.mk (below_step (below_step HB.out H6.out.older) h7.below)
    clear HP H6 h7
    go_wp2
    go_ret
    exact ⟨rfl, H7.out⟩
  · exact absurd rfl h
end Go.Proofs.Ytonmdifmlpfcpaa.PB
