import Derived.StillTailTactics
import Derived.ArgAppend
import Derived.Below
import Derived.BigQuiet
import Derived.Deep.AppendLies
import Derived.Deep.CutBlock
import Derived.Deep.DeepCutAuto
import Derived.Deep.Draws
import Derived.Deep.LoopGhost
import Derived.Deep.OwnRows
import Derived.Deep.QuietTactic
import Derived.Deep.RegionHeld3
import Derived.KernelRfl
import Derived.Laws.Bits64b
import Derived.Laws.BitsLemmas
import Derived.Laws.BytesArg
import Derived.Laws.Externs
import Derived.Laws.IdiomCopy
import Derived.Laws.MakeOwn
import Derived.Laws.MathBits
import Derived.Laws.OwnMore
import Derived.Laws.Rows
import Derived.Laws.Slices
import Derived.Lib.AppendStr
import Derived.Lib.ConvBytes
import Derived.Maps.AppendAt
import Derived.OrdersHeld
import Derived.OwnWalk
import Derived.RowKit
import Derived.RowKit3
import Derived.Tactics
import Derived.Test.YtonmdifmlpfcpaaDoorProg
import Derived.WalkKit
import Derived.WideLaws
import Derived.Test.YtonmdifmlpfcpaaDoorWWords
import Derived.Test.YtonmdifmlpfcpaaDoorWLast
import Derived.Test.YtonmdifmlpfcpaaDoorWTab
import Derived.Test.YtonmdifmlpfcpaaDoorWFour
import Derived.Test.YtonmdifmlpfcpaaDoorWQPut
import Derived.Test.YtonmdifmlpfcpaaDoorWApart
import Derived.Test.YtonmdifmlpfcpaaDoorWArr
import Derived.Test.YtonmdifmlpfcpaaDoorWZeros
import Derived.Test.YtonmdifmlpfcpaaDoorWFoot
import Derived.Test.YtonmdifmlpfcpaaDoorWKept
import Derived.Test.YtonmdifmlpfcpaaDoorWShare
import Derived.Test.YtonmdifmlpfcpaaDoorWN
import Derived.Test.YtonmdifmlpfcpaaDoorWFootNe
import Derived.Test.YtonmdifmlpfcpaaDoorWAt
import Derived.Test.YtonmdifmlpfcpaaDoorWEqStruct
import Derived.Test.YtonmdifmlpfcpaaDoorWRepsOne
import Derived.Test.YtonmdifmlpfcpaaDoorWInv
import Derived.Test.YtonmdifmlpfcpaaDoorWInvWords
import Derived.Test.YtonmdifmlpfcpaaDoorWGuard
import Derived.Test.YtonmdifmlpfcpaaDoorWNEv
import Derived.Test.YtonmdifmlpfcpaaDoorWMore
import Derived.Test.YtonmdifmlpfcpaaDoorBst
namespace Go.Proofs.YtonmdifmlpfcpaaDoor.PB
open Go.RowKit Go.Proofs.YtonmdifmlpfcpaaDoorW.PrintWords Go.Proofs.YtonmdifmlpfcpaaDoorW.PrintLast Go.Proofs.YtonmdifmlpfcpaaDoorW.PrintMore
set_option linter.unusedVariables false
set_option linter.unusedSimpArgs false
set_option maxRecDepth 100000
set_option maxHeartbeats 1000000
theorem WAt.head {κ : Nat → Tag} {L : Lay} {w : World} {m : MW} (h : WAt κ L w m) : (w.cell? ⟨L.p, 0, none⟩ = some L.vb ∧ w.cell? ⟨L.p, 1, none⟩ = some L.vf) ∧ w.frozen? ⟨L.p, 0, none⟩ = false ∧ w.frozen? ⟨L.p, 1, none⟩ = false :=
  ⟨⟨(blk_cell h.hp 0).trans rfl, (blk_cell h.hp 1).trans rfl⟩, blk_frozen h.hp 0, blk_frozen h.hp 1⟩
theorem row_cases {w : World} {e : TypeId} {v : Value} {n : Nat} {xs : List Value} (h : w.ownsRow 0 e 1 v n xs) : (v = .slice none 0 0 ∧ n = 0) ∨ ∃ g cap, v = .slice (some ⟨g, 0, none⟩) n cap ∧ n ≤ cap ∧ cap ≤ maxLen ∧ ∀ i, i < n → w.cell? ⟨g, i, none⟩ = xs[i]? := by
  rcases h.2 with h1 | ⟨g, cap, cur, rfl, _, _, hc, hm, _⟩
  · exact .inl h1
  · exact .inr ⟨g, cap, rfl, hc, hm, fun i hi => h.cellAt i (by omega)⟩
theorem WAt.rowF {κ : Nat → Tag} {L : Lay} {w : World} {m : MW} (h : WAt κ L w m) : (L.vf = .slice none 0 0 ∧ m.files = []) ∨ ∃ g cap, L.vf = .slice (some ⟨g, 0, none⟩) m.files.length cap ∧ ∀ i (hi : i < m.files.length), w.cell? ⟨g, i, none⟩ = some (pt (L.fl (m.files[i]'hi).num)) := by
  rcases row_cases h.rf with ⟨h1, h2⟩ | ⟨g, cap, h1, _, _, h2⟩
  · exact .inl ⟨h1, List.length_eq_zero_iff.1 h2⟩
  · refine .inr ⟨g, cap, h1, fun i hi => ?_⟩
    rw [h2 i hi, List.getElem?_map, List.getElem?_eq_getElem hi]; rfl
theorem WAt.rowB {κ : Nat → Tag} {L : Lay} {w : World} {m : MW} (h : WAt κ L w m) : (L.vb = .slice none 0 0 ∧ m.books = []) ∨ ∃ g cap, L.vb = .slice (some ⟨g, 0, none⟩) m.books.length cap ∧ ∀ i (hi : i < m.books.length), w.cell? ⟨g, i, none⟩ = some (pt (L.bk (m.books[i]'hi).id)) := by
  rcases row_cases h.rb with ⟨h1, h2⟩ | ⟨g, cap, h1, _, _, h2⟩
  · exact .inl ⟨h1, List.length_eq_zero_iff.1 h2⟩
  · refine .inr ⟨g, cap, h1, fun i hi => ?_⟩
    rw [h2 i hi, List.getElem?_map, List.getElem?_eq_getElem hi]; rfl
/-- a file's cells -/
theorem WAt.fc {κ : Nat → Tag} {L : Lay} {w : World} {m : MW} (h : WAt κ L w m) {f : MFl} (hf : f ∈ m.files) :
    (w.cell? ⟨L.fl f.num, 0, none⟩ = some (.int .i64 f.num) ∧ w.cell? ⟨L.fl f.num, 1, none⟩ = some (.pointer (some ⟨L.bk f.bk, 0, none⟩)) ∧ w.cell? ⟨L.fl f.num, 2, none⟩ = some (.int .i64 f.pos) ∧ w.cell? ⟨L.fl f.num, 3, none⟩ = some (.int .i64 f.mood)) ∧ w.frozen? ⟨L.fl f.num, 2, none⟩ = false ∧ w.frozen? ⟨L.fl f.num, 3, none⟩ = false :=
  ⟨⟨(blk_cell (h.hf f hf) 0).trans rfl, (blk_cell (h.hf f hf) 1).trans rfl, (blk_cell (h.hf f hf) 2).trans rfl, (blk_cell (h.hf f hf) 3).trans rfl⟩, blk_frozen (h.hf f hf) 2, blk_frozen (h.hf f hf) 3⟩
theorem WAt.flag {κ : Nat → Tag} {L : Lay} {w : World} {m : MW} (h : WAt κ L w m) {f : MFl} (hf : f ∈ m.files) (ev : Nat) (he : ev < 6) :
    w.cell? ⟨L.fl f.num, 4 + ev, none⟩ = some (.bool (f.fl ev)) ∧ w.frozen? ⟨L.fl f.num, 4 + ev, none⟩ = false := by
  refine ⟨?_, blk_frozen (h.hf f hf) _⟩
  have : ev = 0 ∨ ev = 1 ∨ ev = 2 ∨ ev = 3 ∨ ev = 4 ∨ ev = 5 := by omega
  rcases this with rfl | rfl | rfl | rfl | rfl | rfl <;> exact (blk_cell (h.hf f hf) _).trans rfl
/-- a book's cells -/
theorem WAt.bc {κ : Nat → Tag} {L : Lay} {w : World} {m : MW} (h : WAt κ L w m) {b : MBk} (hb : b ∈ m.books) :
    (w.cell? ⟨L.bk b.id, 0, none⟩ = some (.string b.name) ∧ w.cell? ⟨L.bk b.id, 1, none⟩ = some (L.tv b.id) ∧ w.cell? ⟨L.bk b.id, 2, none⟩ = some (.bool b.write)) ∧ w.frozen? ⟨L.bk b.id, 1, none⟩ = false :=
  ⟨⟨(blk_cell (h.hb b hb) 0).trans rfl, (blk_cell (h.hb b hb) 1).trans rfl, (blk_cell (h.hb b hb) 2).trans rfl⟩, blk_frozen (h.hb b hb) 1⟩
def MW.file (m : MW) (n : Int) : Option MFl := m.files.find? fun f => decide ((f.num : Int) = n)
def MW.find (m : MW) (s : ByteArray) : Option MBk := m.books.find? fun b => decide (b.name = s)
def findV (L : Lay) : Option MBk → Value
  | some b => pt (L.bk b.id)
  | none => .pointer none
def fileV (L : Lay) : Option MFl → Value
  | some f => .tuple #[pt (L.fl f.num), .int .i64 0]
  | none => .tuple #[.pointer none, .int .i64 29]
theorem find?_at {α : Type} {p : α → Bool} {l : List α} {k : Nat} (hk : k < l.length) (hp : p l[k] = true) (hn : ∀ j (hj : j < l.length), j < k → p l[j] = false) : l.find? p = some l[k] := by
  induction l generalizing k with
  | nil => exact absurd hk (Nat.not_lt_zero _)
  | cons x r ih =>
    cases k with
    | zero => rw [List.find?_cons_of_pos (by simpa using hp)]; rfl
    | succ k =>
      have h0 : p x = false := hn 0 (Nat.zero_lt_succ _) (Nat.zero_lt_succ _)
      rw [List.find?_cons_of_neg (by simp [h0])]
      exact ih (by simpa using hk) (by simpa using hp) fun j hj hjk => hn (j + 1) (by simpa using hj) (by omega)
theorem find?_no {α : Type} {p : α → Bool} {l : List α} (hn : ∀ j (hj : j < l.length), p l[j] = false) : l.find? p = none := by
  rw [List.find?_eq_none]
  intro x hx
  obtain ⟨j, hj, rfl⟩ := List.mem_iff_getElem.1 hx
  simp [hn j hj]
theorem TxAt.sl {κ : Nat → Tag} {t : Tag} {w : World} {v : Value} {l : List UInt8} (h : TxAt κ t w v l) : ∃ a cap, v = .slice a l.length cap ∧ l.length ≤ cap ∧ cap ≤ maxLen ∧ ∀ i (hi : i < l.length), ∃ g, a = some ⟨g, 0, none⟩ ∧ κ g = t ∧ w.cell? ⟨g, i, none⟩ = some (.int .u8 ((l[i]'hi).toNat)) := by
  rcases h with ⟨rfl, rfl⟩ | ⟨a, rfl, rfl⟩ | ⟨g, cap, cur, lo, hi, rfl, hk, hc, h1, _, h2, _, ht⟩
  · exact ⟨none, 0, rfl, Nat.le_refl _, Nat.zero_le _, fun i hi => absurd hi (Nat.not_lt_zero _)⟩
  · exact ⟨some a, 0, rfl, Nat.le_refl _, Nat.zero_le _, fun i hi => absurd hi (Nat.not_lt_zero _)⟩
  · refine ⟨_, cap, rfl, h1, h2, fun i hi => ⟨g, rfl, hk, ?_⟩⟩
    have h1 : (cur.toList.take l.length)[i]? = some (.int .u8 ((l[i]'hi).toNat)) := by
      rw [ht, u8s, List.getElem?_map, List.getElem?_eq_getElem hi]; rfl
    rw [List.getElem?_take, if_pos hi] at h1
    simp only [World.cell?, hc]
    simpa using h1
def MW.text (m : MW) (f : MFl) : List UInt8 := ((m.books.find? fun b => decide (b.id = f.bk)).map MBk.text).getD []
theorem MW.ok.text {m : MW} (h : m.ok) {f : MFl} {b : MBk} (hb : b ∈ m.books) (e : b.id = f.bk) : m.text f = b.text := by
  unfold MW.text
  cases hx : m.books.find? fun b => decide (b.id = f.bk) with
  | none => exact absurd (decide_eq_true e) (by simpa using List.find?_eq_none.1 hx b hb)
  | some c =>
    have h1 := List.find?_some hx
    have h2 := List.mem_of_find?_eq_some hx
    rw [h.id_inj h2 hb ((of_decide_eq_true h1).trans e.symm)]; rfl
theorem MW.file_mem {m : MW} {n : Int} {f : MFl} (h : m.file n = some f) : f ∈ m.files ∧ (f.num : Int) = n := by
  unfold MW.file at h
  exact ⟨List.mem_of_find?_eq_some h, by simpa using List.find?_some h⟩
theorem MW.find_mem {m : MW} {s : ByteArray} {b : MBk} (h : m.find s = some b) : b ∈ m.books ∧ b.name = s := by
  unfold MW.find at h
  exact ⟨List.mem_of_find?_eq_some h, by simpa using List.find?_some h⟩
/-- a file, its book and the book's text -/
theorem WAt.ft {κ : Nat → Tag} {L : Lay} {w : World} {m : MW} (h : WAt κ L w m) {f : MFl} (hf : f ∈ m.files) : ∃ g a cap, L.bk f.bk = g ∧ κ g = .bk f.bk ∧ w.cell? ⟨g, 1, none⟩ = some (.slice a (m.text f).length cap) ∧ (m.text f).length ≤ 1048576 ∧ (m.text f).length ≤ cap ∧ cap ≤ maxLen ∧ ∀ i (hi : i < (m.text f).length), ∃ q, a = some ⟨q, 0, none⟩ ∧ κ q = .tx f.bk ∧ w.cell? ⟨q, i, none⟩ = some (.int .u8 (((m.text f)[i]'hi).toNat)) := by
  obtain ⟨b, hb, e⟩ := h.ok.has f hf
  obtain ⟨a, cap, hv, hc1, hc2, hc⟩ := (h.tx b hb).sl
  have ht := h.ok.text (f := f) hb e
  have h1 := (h.bc hb).1.2.1
  rw [hv] at h1
  rw [ht, ← e]
  exact ⟨_, a, cap, rfl, h.kb b hb, h1, h.ok.tx b hb, hc1, hc2, hc⟩
def nextR (fl : Nat → Bool) : List UInt8 → Nat → Nat × Nat
  | [], _ => (0, 22)
  | c :: r, i => if c.toNat = 12 then (if fl 1 then nextR fl r (i + 1) else (0, 22)) else if c.toNat = 10 then (if fl 2 then nextR fl r (i + 1) else (0, 22)) else (i, 0)
theorem str_inj {a b : ByteArray} (h : a.toList = b.toList) : a = b := by
  rw [ByteArray.toList_eq, ByteArray.toList_eq] at h
  cases a; cases b
  exact congrArg ByteArray.mk (Array.toList_inj.1 h)
theorem str_ne {a b : ByteArray} (h : ¬ a = b) : (a.toList == b.toList) = false := by
  rw [beq_eq_false_iff_ne]
  exact fun e => h (str_inj e)
/-- nothing but draws -/
def Rd (w w' : World) : Prop := ∃ q, w' = w.drewN q
theorem Rd.below {w w' : World} (h : Rd w w') : Below w.heap.size w w' := by
  obtain ⟨q, rfl⟩ := h
  exact pw_below_drewN (Below.refl _ _) q
theorem Rd.trans {a b c : World} (h : Rd a b) (k : Rd b c) : Rd a c := by
  obtain ⟨q, rfl⟩ := h
  obtain ⟨r, rfl⟩ := k
  exact ⟨q + r, by rw [World.drewN_drewN]⟩
theorem Rd.refl (w : World) : Rd w w := ⟨0, rfl⟩
theorem Rd.drew (w : World) : Rd w w.drew := ⟨1, rfl⟩
theorem quiet_rd {P : Program} {f : FuncId} {args : Array Value} {w : World} {n : Nat} {v : Value} (h : Calls P f args (w.drewN n) fun e w' => e = .returned v ∧ Rd (w.drewN n) w') : Calls P f args (w.drewN n) fun e w'' => e = .returned v ∧ ∃ m, w'' = w.drewN m := Calls.quiet_of h
end Go.Proofs.YtonmdifmlpfcpaaDoor.PB
