import Derived.StillTailTactics
import Derived.ArgAppend
import Derived.Below
import Derived.BigQuiet
import Derived.Deep.AppendLies
import Derived.Deep.CutBlock
import Derived.Deep.DeepCutAuto
import Derived.Deep.Draws
import Derived.Deep.LoopGhost
import Derived.Deep.OwnRows
import Derived.Deep.QuietTactic
import Derived.Deep.RegionHeld3
import Derived.KernelRfl
import Derived.Laws.Bits64b
import Derived.Laws.BitsLemmas
import Derived.Laws.BytesArg
import Derived.Laws.Externs
import Derived.Laws.IdiomCopy
import Derived.Laws.MakeOwn
import Derived.Laws.MathBits
import Derived.Laws.OwnMore
import Derived.Laws.Rows
import Derived.Laws.Slices
import Derived.Lib.AppendStr
import Derived.Lib.ConvBytes
import Derived.Maps.AppendAt
import Derived.OrdersHeld
import Derived.OwnWalk
import Derived.RowKit
import Derived.RowKit3
import Derived.Tactics
import Derived.Test.YtonmdifmlpfcpaaDoorProg
import Derived.WalkKit
import Derived.WideLaws
import Derived.Lib.Walk
import Derived.Lib.SliceRun
import Derived.Lib.JoinLaws
import Derived.Lib.AppendZeros
import Derived.Lib.Overlaps
import Derived.Lib.AppendZerosOnto
import Derived.Shelf.RegionOpenPlain
import Derived.Shelf.Spec.SlicesInsert
import Derived.Deep.RegionLaw
import Derived.Test.YtonmdifmlpfcpaaDoorWWords
import Derived.Test.YtonmdifmlpfcpaaDoorWLast
import Derived.Test.YtonmdifmlpfcpaaDoorWTab
import Derived.Test.YtonmdifmlpfcpaaDoorWFour
import Derived.Test.YtonmdifmlpfcpaaDoorWQPut
import Derived.Test.YtonmdifmlpfcpaaDoorWApart
import Derived.Test.YtonmdifmlpfcpaaDoorWArr
import Derived.Test.YtonmdifmlpfcpaaDoorWZeros
import Derived.Test.YtonmdifmlpfcpaaDoorWFoot
import Derived.Test.YtonmdifmlpfcpaaDoorWKept
import Derived.Test.YtonmdifmlpfcpaaDoorWShare
import Derived.Test.YtonmdifmlpfcpaaDoorWN
import Derived.Test.YtonmdifmlpfcpaaDoorWFootNe
import Derived.Test.YtonmdifmlpfcpaaDoorWAt
import Derived.Test.YtonmdifmlpfcpaaDoorWEqStruct
import Derived.Test.YtonmdifmlpfcpaaDoorWRepsOne
import Derived.Test.YtonmdifmlpfcpaaDoorWInv
import Derived.Test.YtonmdifmlpfcpaaDoorWInvWords
import Derived.Test.YtonmdifmlpfcpaaDoorWGuard
import Derived.Test.YtonmdifmlpfcpaaDoorWNEv
import Derived.Test.YtonmdifmlpfcpaaDoorWMore
import Derived.Test.YtonmdifmlpfcpaaDoorBaddb
import Derived.Test.YtonmdifmlpfcpaaDoorBapp
import Derived.Test.YtonmdifmlpfcpaaDoorBchk1
namespace Go.Proofs.YtonmdifmlpfcpaaDoor.PB
open Go.RowKit Go.Proofs.YtonmdifmlpfcpaaDoorW.PrintWords Go.Proofs.YtonmdifmlpfcpaaDoorW.PrintLast Go.Proofs.YtonmdifmlpfcpaaDoorW.PrintMore
set_option linter.unusedVariables false
set_option linter.unusedSimpArgs false
set_option maxRecDepth 100000
set_option maxHeartbeats 1000000
theorem bytes_tx (w : World) (s : ByteArray) (hs : s.size ≤ 1048576) (κ' : Nat → Tag) (t : Tag) (W : World) (hk : κ' w.heap.size = t) (hW : W.heap[w.heap.size]? = (Lib.bytesWorld w 5 s).heap[w.heap.size]?) :
    TxAt κ' t W (.slice (some ⟨w.heap.size, 0, none⟩) s.size (grownCap w s.size 0 5)) s.data.toList := by
  have hl : s.data.toList.length = s.size := by simp
  have hge := grownCap_ge w s.size 0 5
  have hsz : (Lib.bytesCells w 5 s).size = grownCap w s.size 0 5 := by
    unfold Lib.bytesCells
    have : s.data.size = s.size := rfl
    simp; omega
  refine .inr (.inr ⟨w.heap.size, grownCap w s.size 0 5, Lib.bytesCells w 5 s, (Lib.bytesCells w 5 s).size, (Lib.bytesCells w 5 s).size + 1, by rw [hl], hk, by rw [hW, Lib.bytesWorld_at_new], by rw [hl]; exact hge, by rw [hsz]; exact Nat.le_refl _, grownCap_le_maxLen w _ _ _ (by unfold maxLen; omega), fun j hj => by omega, ?_⟩)
  rw [hl]
  unfold Lib.bytesCells
  have : s.data.size = s.size := rfl
  rw [Array.toList_append, List.take_append_of_le_length (by simp), List.take_of_length_le (by simp)]
  simp [u8s]
theorem book_add {κ : Nat → Tag} {L : Lay} {w WB : World} {m : MW} (name : ByteArray) (text : List UInt8) (wr : Bool) (tv : Value) (h : WAt κ L w m) (hszB : w.heap.size ≤ WB.heap.size) (holdB : ∀ k, k < w.heap.size → WB.heap[k]? = w.heap[k]?) (h1 : WB.os = w.os) (h2 : WB.tape = w.tape) (h3 : WB.output = w.output)
    (htv : ∀ g, tv.ownBlock = some g → w.heap.size ≤ g ∧ g < WB.heap.size) (htx : ∀ (κ' : Nat → Tag) (W : World), (∀ g, tv.ownBlock = some g → κ' g = .tx m.next ∧ W.heap[g]? = WB.heap[g]?) → TxAt κ' (.tx m.next) W tv text) (hl : m.books.length < 67) (ht : text.length ≤ 1048576) :
    ∃ g cap WE κ' L', (Builtin.append_ #[64, 64] 64 #[L.vb, .slice (some ⟨WB.heap.size + 1, 0, none⟩) 1 1]).run Tryd.prog ((WB.alloc (.cells #[.string name, tv, .bool wr] 72)).alloc (.cells #[.pointer (some ⟨WB.heap.size, 0, none⟩)] 69)) = .ok (.slice (some ⟨g, 0, none⟩) (m.books.length + 1) cap) WE ∧
      (WE.cell? ⟨L.p, 0, none⟩ = some L.vb ∧ WE.frozen? ⟨L.p, 0, none⟩ = false) ∧ (L'.p = L.p ∧ L'.bk m.next = WB.heap.size) ∧ St κ w κ' L' (WE.setCell ⟨L.p, 0, none⟩ (.slice (some ⟨g, 0, none⟩) (m.books.length + 1) cap)) (m.addB name text wr) := by
  generalize hbc : (Obj.cells #[.string name, tv, .bool wr] 72) = bo
  generalize hWD : (WB.alloc bo).alloc (.cells #[.pointer (some ⟨WB.heap.size, 0, none⟩)] 69) = WD
  have hszC : (WB.alloc bo).heap.size = WB.heap.size + 1 := by simp
  have hszD : WD.heap.size = WB.heap.size + 2 := by rw [← hWD]; simp
  have hD : ∀ k, k < WB.heap.size → WD.heap[k]? = WB.heap[k]? := fun k hk => by
    rw [← hWD, Below.heap_alloc _ _ _ (by omega), Below.heap_alloc _ _ _ (by omega)]
  have holdD : ∀ k, k < w.heap.size → WD.heap[k]? = w.heap[k]? := fun k hk => (hD k (by omega)).trans (holdB k hk)
  have hbD : WD.heap[WB.heap.size]? = some bo := by
    rw [← hWD, Below.heap_alloc _ _ _ (by omega)]; exact blk_new _ _
  have hvD : WD.heap[WB.heap.size + 1]? = some (.cells #[.pointer (some ⟨WB.heap.size, 0, none⟩)] 69 (0, 0)) := by
    rw [← hWD, ← hszC]; exact blk_new _ _
  have hlt : ∀ g, L.vb.ownBlock = some g → g < w.heap.size := fun g hg => (h.rb.lt g hg).2
  have hownD : WD.ownsRow 0 69 1 L.vb m.books.length (m.books.map fun b => pt (L.bk b.id)) := ownsRow_of_block h.rb fun g hg => holdD g (hlt g hg)
  obtain ⟨v', WE, hr, hown, hgr, ho⟩ := append_ptr (t := 64) Tryd.underlying64 infoB L.vb m.books.length _ WD hownD (WB.heap.size + 1) (pt WB.heap.size) rfl ((blk_cell hvD 0).trans rfl) (by omega) 64
  rcases row_cases hown with ⟨rfl, h0⟩ | ⟨g, cap, rfl, _, _, _⟩
  · omega
  have hp : L.p < w.heap.size := h.lt (k := L.p) (by rw [h.tp]; exact Tag.noConfusion)
  have hgE : ∀ k, k < WD.heap.size → L.vb.ownBlock ≠ some k → WE.heap[k]? = WD.heap[k]? := fun k hk hn => hgr.block k hk (fun e => hn e.symm)
  have hnp : L.vb.ownBlock ≠ some L.p := fun e => by have := h.tb L.p e; rw [h.tp] at this; exact Tag.noConfusion this
  have hnew : ∀ k, w.heap.size ≤ k → L.vb.ownBlock ≠ some k := fun k hk e => by have := hlt k e; omega
  have hPE : WE.heap[L.p]? = some (.cells #[L.vb, L.vf] 67 (0, 0)) := by
    rw [hgE L.p (by omega) hnp, holdD L.p hp]; exact h.hp
  have hszE : WD.heap.size ≤ WE.heap.size := hgr.size
  have hset : (WE.setCell ⟨L.p, 0, none⟩ (.slice (some ⟨g, 0, none⟩) (m.books.length + 1) cap)).heap.size = WE.heap.size := by simp [World.setCell]
  have hfar : ∀ k, k ≠ L.p → (WE.setCell ⟨L.p, 0, none⟩ (.slice (some ⟨g, 0, none⟩) (m.books.length + 1) cap)).heap[k]? = WE.heap[k]? := fun k hk => Below.heap_setCell _ _ _ _ hk
  have hgp : g ≠ L.p := fun e => by
    rcases ho with ho | ho
    · exact hnp (by rw [← ho, e]; rfl)
    · have : g = WD.heap.size := by have := Option.some.inj ho; exact this
      omega
  have hdr : WD.os = w.os ∧ WD.tape = w.tape ∧ WD.output = w.output := by
    rw [← hWD]; exact ⟨h1, h2, h3⟩
  refine ⟨g, cap, WE, κB κ WB.heap.size m.next tv (.slice (some ⟨g, 0, none⟩) (m.books.length + 1) cap), L.addB WB.heap.size m.next tv (.slice (some ⟨g, 0, none⟩) (m.books.length + 1) cap), hr, ⟨(blk_cell hPE 0).trans rfl, blk_frozen hPE 0⟩, ⟨rfl, if_pos rfl⟩, WAt.addB h hl name text wr ht WB.heap.size tv (.slice (some ⟨g, 0, none⟩) (m.books.length + 1) cap) hszB ?_ ?_ (hgr.os.trans hdr.1) (hgr.tape.trans hdr.2.1) (hgr.output.trans hdr.2.2) (by rw [hset]; omega) ?_ ?_ ?_ ?_ ?_⟩
  · intro k hk
    have := htv k hk
    rw [hset]; omega
  · rcases ho with ho | ho
    · exact .inl ho
    · exact .inr ⟨_, ho, by omega, by omega, fun e => by have := htv _ e; omega⟩
  · rw [hfar _ (by omega), hgE _ (by omega) (hnew _ (by omega)), hbD, ← hbc]
  · intro κ' hκ'
    refine htx κ' _ fun k hk => ⟨hκ' k hk, ?_⟩
    have := htv k hk
    rw [hfar k (by omega), hgE k (by omega) (hnew k (by omega)), hD k (by omega)]
  · exact blk_put hPE 0 _ rfl
  · exact ownsRow_of_block hown fun k hk => hfar k (by have : g = k := Option.some.inj hk; rw [← this]; exact hgp)
  · intro k hk hkp hkv
    rw [hfar k hkp, hgE k (by omega) hkv, holdD k hk]
theorem new_add {κ : Nat → Tag} {L : Lay} {w WB : World} {m : MW} (x : ABk) (h : WAt κ L w m) (hWB : Lib.bytesWorld w.drew 5 x.text = WB) (hl : m.books.length < 67) (ht : x.text.size ≤ 1048576) :
    ∃ g cap WE κ' L', (Builtin.append_ #[64, 64] 64 #[L.vb, .slice (some ⟨WB.heap.size + 1, 0, none⟩) 1 1]).run Tryd.prog ((WB.alloc (.cells #[.string x.name, .slice (some ⟨w.heap.size, 0, none⟩) x.text.size (grownCap w.drew x.text.size 0 5), .bool x.write] 72)).alloc (.cells #[.pointer (some ⟨WB.heap.size, 0, none⟩)] 69)) = .ok (.slice (some ⟨g, 0, none⟩) (m.books.length + 1) cap) WE ∧
      (WE.cell? ⟨L.p, 0, none⟩ = some L.vb ∧ WE.frozen? ⟨L.p, 0, none⟩ = false) ∧ (L'.p = L.p ∧ L'.bk m.next = WB.heap.size) ∧ St κ w κ' L' (WE.setCell ⟨L.p, 0, none⟩ (.slice (some ⟨g, 0, none⟩) (m.books.length + 1) cap)) (m.addB x.name x.text.data.toList x.write) := by
  subst hWB
  refine book_add x.name x.text.data.toList x.write _ h (by rw [Lib.bytesWorld_size]; exact Nat.le_succ _) (fun k hk => Lib.bytesWorld_at_old w.drew _ _ k hk) rfl rfl rfl (fun g hg => ?_) (fun κ' W hW => ?_) hl (by simpa using ht)
  · have : w.heap.size = g := Option.some.inj hg
    rw [Lib.bytesWorld_size]
    exact ⟨by omega, by rw [← this]; exact Nat.lt_succ_self _⟩
  · obtain ⟨h1, h2⟩ := hW w.heap.size rfl
    exact bytes_tx w.drew x.text ht κ' _ W h1 h2
theorem std_add {κ : Nat → Tag} {L : Lay} {w : World} {m : MW} (name : ByteArray) (wr : Bool) (h : WAt κ L w m) (hl : m.books.length < 67) :
    ∃ g cap WE κ' L', (Builtin.append_ #[64, 64] 64 #[L.vb, .slice (some ⟨w.heap.size + 1, 0, none⟩) 1 1]).run Tryd.prog ((w.alloc (.cells #[.string name, .slice none 0 0, .bool wr] 72)).alloc (.cells #[.pointer (some ⟨w.heap.size, 0, none⟩)] 69)) = .ok (.slice (some ⟨g, 0, none⟩) (m.books.length + 1) cap) WE ∧
      (WE.cell? ⟨L.p, 0, none⟩ = some L.vb ∧ WE.frozen? ⟨L.p, 0, none⟩ = false) ∧ (L'.p = L.p ∧ L'.bk m.next = w.heap.size) ∧ St κ w κ' L' (WE.setCell ⟨L.p, 0, none⟩ (.slice (some ⟨g, 0, none⟩) (m.books.length + 1) cap)) (m.addB name [] wr) :=
  book_add name [] wr (.slice none 0 0) h (Nat.le_refl _) (fun _ _ => rfl) rfl rfl rfl (fun g hg => by cases hg) (fun _ _ _ => .inl ⟨rfl, rfl⟩) hl (Nat.zero_le _)
theorem step_append_runI {P : Program} {ops : Array Oper} {o : Oper} {a : Act} {w : World} {K : Act → World → Prop} {Q : Exit → Act → World → Prop} {E : Prop}
    (hg : o.guard = none) (d x : Operand) (dT sT : TypeId) (hop : o.op = Op.call { callee := Callee.builtin Builtin.append, args := #[d, x], argTypes := #[dT, sT] })
    (v u : Value) (hd : a.eval d = v) (hx : a.eval x = u) {v' : Value} {w' : World} (hr : (Builtin.append_ #[dT, sT] o.type #[v, u]).run P w = .ok v' w') (hK : K (a.put o.dst v') w') :
    if Region.wanted o (yielded ops a.tmps) = true then Oper.wp P o a w K Q else E := by
  have hw : Region.wanted o (yielded ops a.tmps) = true := by simp [Region.wanted, hg]
  rw [if_pos hw]
  unfold Oper.wp
  simp [execOp, hop, resolve, invoke, builtin, hd, hx, hr, Result.andThen]
  exact hK
end Go.Proofs.YtonmdifmlpfcpaaDoor.PB
