import Derived.StillTailTactics
import Derived.ArgAppend
import Derived.Below
import Derived.BigQuiet
import Derived.Deep.AppendLies
import Derived.Deep.CutBlock
import Derived.Deep.DeepCutAuto
import Derived.Deep.Draws
import Derived.Deep.LoopGhost
import Derived.Deep.OwnRows
import Derived.Deep.QuietTactic
import Derived.Deep.RegionHeld3
import Derived.KernelRfl
import Derived.Laws.Bits64b
import Derived.Laws.BitsLemmas
import Derived.Laws.BytesArg
import Derived.Laws.Externs
import Derived.Laws.IdiomCopy
import Derived.Laws.MakeOwn
import Derived.Laws.MathBits
import Derived.Laws.OwnMore
import Derived.Laws.Rows
import Derived.Laws.Slices
import Derived.Lib.AppendStr
import Derived.Lib.ConvBytes
import Derived.Maps.AppendAt
import Derived.OrdersHeld
import Derived.OwnWalk
import Derived.RowKit
import Derived.RowKit3
import Derived.Tactics
import Derived.Test.YtonmdifmlpfcpaaProg
import Derived.WalkKit
import Derived.WideLaws
import Derived.Lib.Walk
import Derived.Lib.SliceRun
import Derived.Lib.JoinLaws
import Derived.Lib.AppendZeros
import Derived.Lib.Overlaps
import Derived.Lib.AppendZerosOnto
import Derived.Shelf.RegionOpenPlain
import Derived.Shelf.Spec.SlicesInsert
import Derived.Deep.RegionLaw
import Derived.Lib.BufferRead
import Derived.Laws.IdiomStrings
import Derived.Test.YtonmdifmlpfcpaaWWords
import Derived.Test.YtonmdifmlpfcpaaWLast
import Derived.Test.YtonmdifmlpfcpaaWTab
import Derived.Test.YtonmdifmlpfcpaaWFour
import Derived.Test.YtonmdifmlpfcpaaWQPut
import Derived.Test.YtonmdifmlpfcpaaWApart
import Derived.Test.YtonmdifmlpfcpaaWArr
import Derived.Test.YtonmdifmlpfcpaaWZeros
import Derived.Test.YtonmdifmlpfcpaaWFoot
import Derived.Test.YtonmdifmlpfcpaaWKept
import Derived.Test.YtonmdifmlpfcpaaWShare
import Derived.Test.YtonmdifmlpfcpaaWN
import Derived.Test.YtonmdifmlpfcpaaWFootNe
import Derived.Test.YtonmdifmlpfcpaaWAt
import Derived.Test.YtonmdifmlpfcpaaWEqStruct
import Derived.Test.YtonmdifmlpfcpaaWRepsOne
import Derived.Test.YtonmdifmlpfcpaaWInv
import Derived.Test.YtonmdifmlpfcpaaWInvWords
import Derived.Test.YtonmdifmlpfcpaaWGuard
import Derived.Test.YtonmdifmlpfcpaaWNEv
import Derived.Test.YtonmdifmlpfcpaaWMore
import Derived.Test.YtonmdifmlpfcpaaNwG
namespace Go.Proofs.Ytonmdifmlpfcpaa.PB
open Go.RowKit Go.Proofs.YtonmdifmlpfcpaaW.PrintWords Go.Proofs.YtonmdifmlpfcpaaW.PrintLast Go.Proofs.YtonmdifmlpfcpaaW.PrintMore
set_option linter.unusedVariables false
set_option linter.unusedSimpArgs false
set_option maxRecDepth 100000
set_option maxHeartbeats 1000000
/-! ### the reference's world as the program's -/
def RFl.mf (i : Nat) (f : RFl) : MFl := ⟨i + 1, f.bk, f.pos, f.mood, f.fl⟩
def liveL : List ABk → List Bool → Nat → List MBk
  | b :: l, g :: r, i => if g = true then liveL l r (i + 1) else ⟨i, b.name, b.text.data.toList, b.write⟩ :: liveL l r (i + 1)
  | _, _, _ => []
def RW.mw (m : RW) : MW := ⟨m.list.length, liveL m.list m.gone 0, (m.openF 20).map fun i => (m.fs i).mf i⟩
structure RW.good (m : RW) : Prop where
  gn : m.gone.length = m.list.length
  bk : ∀ i, i < 20 → (m.fs i).op = true → (m.fs i).bk < m.list.length
  live : ∀ i, i < 20 → (m.fs i).op = true → m.gone[(m.fs i).bk]? = some false
theorem mem_openF {m : RW} {k i : Nat} : i ∈ m.openF k ↔ i < k ∧ (m.fs i).op = true := by
  unfold RW.openF
  rw [List.mem_filter, List.mem_range]
theorem mw_file (m : RW) (n : Int) : m.mw.file n = if m.st n = 0 then some ((m.fs (n - 1).toNat).mf (n - 1).toNat) else none := by
  unfold MW.file
  by_cases h : m.st n = 0
  · rw [if_pos h]
    obtain ⟨k, hk, rfl, ho⟩ := RW.st_open h
    rw [show ((k : Int) + 1 - 1).toNat = k by omega]
    have hmem : (m.fs k).mf k ∈ m.mw.files := List.mem_map.2 ⟨k, mem_openF.2 ⟨hk, ho⟩, rfl⟩
    cases hf : m.mw.files.find? fun f => decide ((f.num : Int) = (k : Int) + 1) with
    | none =>
      have h1 := List.find?_eq_none.1 hf _ hmem
      exact absurd (decide_eq_true (show (((m.fs k).mf k).num : Int) = (k : Int) + 1 from rfl)) (by simpa using h1)
    | some g =>
      have h1 : (g.num : Int) = (k : Int) + 1 := by simpa using List.find?_some hf
      obtain ⟨j, _, rfl⟩ := List.mem_map.1 (List.mem_of_find?_eq_some hf)
      have h2 : ((j + 1 : Nat) : Int) = (k : Int) + 1 := h1
      obtain rfl : j = k := by omega
      rfl
  · rw [if_neg h, List.find?_eq_none]
    intro f hf
    obtain ⟨j, hj, rfl⟩ := List.mem_map.1 hf
    obtain ⟨hj1, hj2⟩ := mem_openF.1 hj
    simp only [decide_eq_true_eq]
    intro e
    have e' : ((j + 1 : Nat) : Int) = n := e
    apply h
    rw [← e']
    show m.st ((j + 1 : Nat) : Int) = 0
    rw [Int.natCast_add, show ((1 : Nat) : Int) = 1 from rfl, RW.st_at hj1, if_pos hj2]
theorem live_find {j : Nat} : ∀ {l : List ABk} {r : List Bool} {i : Nat} (hl : j < l.length), r[j]? = some false → (liveL l r i).find? (fun b => decide (b.id = i + j)) = some ⟨i + j, (l[j]'hl).name, (l[j]'hl).text.data.toList, (l[j]'hl).write⟩
  | [], _, _, hl, _ => absurd hl (Nat.not_lt_zero _)
  | _ :: _, [], _, _, h => by simp at h
  | b :: l, g :: r, i, hl, h => by
    cases j with
    | zero =>
      obtain rfl : g = false := by simpa using h
      unfold liveL
      rw [if_neg (by decide), List.find?_cons_of_pos (by simp)]
      rfl
    | succ j =>
      have ih := live_find (j := j) (l := l) (r := r) (i := i + 1) (by simpa using hl) (by simpa using h)
      have e : i + 1 + j = i + (j + 1) := by omega
      rw [e] at ih
      unfold liveL
      split
      · exact ih
      · rw [List.find?_cons_of_neg (by simp)]
        exact ih
theorem mw_book {m : RW} {j : Nat} (hl : j < m.list.length) (hg : m.gone[j]? = some false) : m.mw.books.find? (fun b => decide (b.id = j)) = some ⟨j, (m.list[j]'hl).name, (m.list[j]'hl).text.data.toList, (m.list[j]'hl).write⟩ := by
  have := live_find (i := 0) hl hg
  simp only [Nat.zero_add] at this
  exact this
theorem mw_text {m : RW} (h : m.good) {i : Nat} (hi : i < 20) (ho : (m.fs i).op = true) : m.mw.text ((m.fs i).mf i) = (m.text i).data.toList := by
  have hb := h.bk i hi ho
  unfold MW.text
  rw [show ((m.fs i).mf i).bk = (m.fs i).bk from rfl, mw_book hb (h.live i hi ho), RW.text_at hb]
  rfl
/-! positions -/
theorem take_snoc {t : List UInt8} {k : Nat} (h : k < t.length) : t.take (k + 1) = t.take k ++ [t.getD k 0] := by
  rw [List.take_succ_eq_append_getElem h, List.getD_eq_getElem?_getD, List.getElem?_eq_getElem h]; rfl
theorem posR_snoc (t : List UInt8) (c : UInt8) (p l : Nat) : posR (t ++ [c]) p l = if c.toNat = 12 then ((posR t p l).1 + 1, 1) else if c.toNat = 10 then ((posR t p l).1, (posR t p l).2 + 1) else posR t p l := by
  induction t generalizing p l with
  | nil => simp only [List.nil_append, posR]
  | cons d r ih =>
    simp only [List.cons_append, posR]
    split
    · exact ih _ _
    · split
      · exact ih _ _
      · exact ih _ _
theorem pos_eq (t : List UInt8) : ∀ k, k ≤ t.length → posC (t.take k) (1, 1, 1) = ((posR (t.take k) 1 1).1, (posR (t.take k) 1 1).2, k - beginR t k + 1)
  | 0, _ => by simp [posC, posR, beginR]
  | k + 1, h => by
    have ih := pos_eq t k (by omega)
    have hb := beginR_le t k
    rw [take_snoc (by omega), posC_snoc, posR_snoc, ih]
    by_cases h12 : (t.getD k 0).toNat = 12
    · have hr : beginR t (k + 1) = k + 1 := by unfold beginR; rw [if_pos (.inr h12)]
      rw [if_pos h12, if_pos h12, hr, Nat.sub_self]
    · by_cases h10 : (t.getD k 0).toNat = 10
      · have hr : beginR t (k + 1) = k + 1 := by unfold beginR; rw [if_pos (.inl h10)]
        rw [if_neg h12, if_neg h12, if_pos h10, if_pos h10, hr, Nat.sub_self]
      · have hr : beginR t (k + 1) = beginR t k := by
          conv => lhs; unfold beginR
          rw [if_neg (by rintro (h | h) <;> contradiction)]
        rw [if_neg h12, if_neg h12, if_neg h10, if_neg h10, hr]
        simp only [Prod.mk.injEq, true_and]
        omega
theorem mw_position {m : RW} (h : m.good) (n : Int) : m.mw.position n = (((m.posn n).1 : Int), ((m.posn n).2.1 : Int), ((m.posn n).2.2.1 : Int), ((m.posn n).2.2.2 : Int)) := by
  unfold MW.position RW.posn
  rw [mw_file]
  by_cases h0 : m.st n = 0
  · rw [if_pos h0, if_pos h0]
    obtain ⟨k, hk, rfl, ho⟩ := RW.st_open h0
    rw [show ((k : Int) + 1 - 1).toNat = k by omega]
    have ht := mw_text h hk ho
    have hsz : (m.text k).data.toList.length = (m.text k).size := by simp
    simp only [ht, hsz]
    rw [show ((m.fs k).mf k).pos = (m.fs k).pos from rfl, pos_eq _ _ (by rw [hsz]; exact Nat.min_le_right _ _)]
    rfl
  · rw [if_neg h0, if_neg h0]
    have : m.st n = 29 := by unfold RW.st at *; split <;> simp_all
    rw [this]; rfl
theorem RW.st_two (m : RW) (n : Int) : m.st n = 0 ∨ m.st n = 29 := by
  unfold RW.st; split
  · exact .inl rfl
  · exact .inr rfl
theorem mw_flag (m : RW) (n ev : Int) : m.mw.flag n ev = ((m.flag n ev).1, ((m.flag n ev).2 : Int)) := by
  unfold MW.flag RW.flag RW.ev
  rw [mw_file]
  rcases RW.st_two m n with h0 | h0
  · rw [h0]
    simp only [if_true]
    by_cases h1 : ev < 0 ∨ 6 ≤ ev
    · rw [if_pos h1, if_pos h1]; rfl
    · rw [if_neg h1, if_neg h1]; rfl
  · rw [h0]; rfl
theorem mw_ended {m : RW} (h : m.good) (n ev : Int) : m.mw.ended n ev = ((m.ended n ev).1, ((m.ended n ev).2 : Int)) := by
  unfold MW.ended RW.ended RW.ev
  rw [mw_file]
  by_cases h0 : m.st n = 0
  · obtain ⟨k, hk, rfl, ho⟩ := RW.st_open h0
    have ht := mw_text h hk ho
    have hsz : (m.text k).data.toList.length = (m.text k).size := by simp
    rw [h0]
    simp only [if_true]
    rw [show ((k : Int) + 1 - 1).toNat = k by omega]
    by_cases h1 : ev < 0 ∨ 3 ≤ ev
    · rw [if_pos h1, if_pos h1]; rfl
    · rw [if_neg h1, if_neg h1]
      simp only [ht, hsz, if_true]
      unfold RW.endB
      rw [show ((m.fs k).mf k).pos = (m.fs k).pos from rfl]
      by_cases hle : (m.text k).size ≤ (m.fs k).pos
      · rw [if_pos hle, decide_eq_true hle]; rfl
      · rw [if_neg hle, decide_eq_false hle]; rfl
  · rcases RW.st_two m n with h1 | h1
    · exact absurd h1 h0
    · rw [h1]; rfl
theorem live_show : ∀ (l : List ABk) (r : List Bool) (i : Nat), (liveL l r i).flatMap showB = (showL l r).flatMap ABk.cl
  | [], r, _ => by cases r <;> rfl
  | _ :: _, [], _ => rfl
  | b :: l, g :: r, i => by
    have ih := live_show l r (i + 1)
    unfold liveL showL
    split
    · exact ih
    · rw [List.flatMap_cons, List.flatMap_cons, ih]
      rfl
theorem live_len : ∀ (l : List ABk) (r : List Bool) (i : Nat), (liveL l r i).length = (showL l r).length
  | [], r, _ => by cases r <;> rfl
  | _ :: _, [], _ => rfl
  | b :: l, g :: r, i => by
    have ih := live_len l r (i + 1)
    unfold liveL showL
    split
    · exact ih
    · rw [List.length_cons, List.length_cons, ih]
theorem RW.shown_all {m : RW} (h : m.good) : m.shown m.list.length = showL m.list m.gone := by
  unfold RW.shown
  rw [List.take_length, ← h.gn, List.take_length]
theorem mw_books {m : RW} (h : m.good) : m.mw.books.flatMap showB = (m.shown m.list.length).flatMap ABk.cl ∧ m.mw.books.length = (m.shown m.list.length).length := by
  rw [RW.shown_all h]
  exact ⟨live_show _ _ _, live_len _ _ _⟩
theorem mw_files (m : RW) : (m.mw.files.map fun f => Value.int .i64 f.num) = ((m.openF 20).map fun (i : Nat) => Value.int .i64 ((i : Int) + 1)) ∧ m.mw.files.length = (m.openF 20).length := by
  refine ⟨?_, by simp [RW.mw]⟩
  unfold RW.mw
  rw [List.map_map]
  rfl
theorem live_app : ∀ (l l' : List ABk) (r r' : List Bool) (i : Nat), l.length = r.length → liveL (l ++ l') (r ++ r') i = liveL l r i ++ liveL l' r' (i + l.length)
  | [], l', [], r', i, _ => by rw [List.nil_append, List.nil_append]; rfl
  | [], _, _ :: _, _, _, h => by simp at h
  | _ :: _, _, [], _, _, h => by simp at h
  | b :: l, l', g :: r, r', i, h => by
    have ih := live_app l l' r r' (i + 1) (by simpa using h)
    rw [List.cons_append, List.cons_append]
    have e : i + 1 + l.length = i + (b :: l).length := by rw [List.length_cons]; omega
    rw [e] at ih
    show (if g = true then liveL (l ++ l') (r ++ r') (i + 1) else _ :: liveL (l ++ l') (r ++ r') (i + 1)) = (if g = true then liveL l r (i + 1) else _ :: liveL l r (i + 1)) ++ _
    rw [ih]
    split
    · rfl
    · rfl
theorem mw_addB {m : RW} (h : m.gone.length = m.list.length) (x : ABk) : (m.addB x).mw = m.mw.addB x.name x.text.data.toList x.write := by
  unfold RW.mw MW.addB RW.addB
  simp only [MW.mk.injEq]
  refine ⟨by simp, ?_, rfl⟩
  rw [live_app _ _ _ _ _ h.symm, Nat.zero_add]
  rfl
theorem live_find_name (s : ByteArray) : ∀ (l : List ABk) (r : List Bool) (i : Nat), (liveL l r i).find? (fun b => decide (b.name = s)) = (rfind s l r i).bind fun j => (l[j - i]?).map fun b => ⟨j, b.name, b.text.data.toList, b.write⟩
  | [], r, i => by cases r <;> rfl
  | _ :: _, [], i => rfl
  | b :: l, g :: r, i => by
    have ih := live_find_name s l r (i + 1)
    have step : (rfind s l r (i + 1)).bind (fun j => (l[j - (i + 1)]?).map fun b => (⟨j, b.name, b.text.data.toList, b.write⟩ : MBk)) = (rfind s l r (i + 1)).bind (fun j => ((b :: l)[j - i]?).map fun b => (⟨j, b.name, b.text.data.toList, b.write⟩ : MBk)) := by
      cases hr : rfind s l r (i + 1) with
      | none => rfl
      | some j =>
        obtain ⟨q, _, _, rfl, _⟩ := rfind_some hr
        show (l[i + 1 + q - (i + 1)]?).map _ = ((b :: l)[i + 1 + q - i]?).map _
        rw [show i + 1 + q - (i + 1) = q by omega, show i + 1 + q - i = q + 1 by omega, List.getElem?_cons_succ]
    rw [step] at ih
    unfold liveL rfind
    by_cases hg : g = true
    · rw [if_pos hg, if_neg (by rw [hg]; simp)]
      exact ih
    · have hg' : g = false := by simpa using hg
      rw [if_neg hg]
      by_cases hs : b.name = s
      · rw [if_pos ⟨hg', hs⟩, List.find?_cons_of_pos (by simpa using hs)]
        simp
      · rw [if_neg (fun q => hs q.2), List.find?_cons_of_neg (by simpa using hs)]
        exact ih
theorem mw_find (m : RW) (s : ByteArray) : m.mw.find s = (m.find s).bind fun j => (m.list[j]?).map fun b => ⟨j, b.name, b.text.data.toList, b.write⟩ := by
  have := live_find_name s m.list m.gone 0
  exact this
theorem find_lt {m : RW} {s : ByteArray} {j : Nat} (h : m.find s = some j) : j < m.list.length ∧ m.gone[j]? = some false := by
  unfold RW.find at h
  obtain ⟨q, hl, hr, rfl, hg, _⟩ := rfind_some h
  rw [Nat.zero_add]
  exact ⟨hl, by rw [List.getElem?_eq_getElem hr, hg]⟩
theorem mw_find_some {m : RW} {s : ByteArray} {j : Nat} (h : m.find s = some j) : m.mw.find s = some ⟨j, (m.list[j]'(find_lt h).1).name, (m.list[j]'(find_lt h).1).text.data.toList, (m.list[j]'(find_lt h).1).write⟩ := by
  rw [mw_find, h]
  show (m.list[j]?).map _ = _
  rw [List.getElem?_eq_getElem (find_lt h).1]; rfl
theorem mw_find_none {m : RW} {s : ByteArray} (h : m.find s = none) : m.mw.find s = none := by
  rw [mw_find, h]; rfl
/-! files -/
theorem setF_same (m : RW) (i : Nat) (f : RFl) : (m.setF i f).fs i = f := if_pos rfl
theorem setF_other (m : RW) (i : Nat) (f : RFl) {j : Nat} (h : j ≠ i) : (m.setF i f).fs j = m.fs j := if_neg h
theorem mw_setF {m : RW} {k : Nat} (ho : (m.fs k).op = true) {f : RFl} (hf : f.op = true) : (m.setF k f).mw = m.mw.setF (f.mf k) := by
  have ho' : (m.setF k f).openF 20 = m.openF 20 := by
    unfold RW.openF
    refine List.filter_congr fun i _ => ?_
    by_cases e : i = k
    · subst e; rw [setF_same, hf, ho]
    · rw [setF_other _ _ _ e]
  unfold RW.mw MW.setF
  rw [ho']
  simp only [MW.mk.injEq, List.map_map]
  refine ⟨rfl, rfl, List.map_congr_left fun i _ => ?_⟩
  show ((m.setF k f).fs i).mf i = if i + 1 = k + 1 then f.mf k else (m.fs i).mf i
  by_cases e : i = k
  · subst e; rw [if_pos rfl, setF_same]
  · rw [if_neg (by omega), setF_other _ _ _ e]
/-- the least free file -/
structure RW.room (m : RW) (k : Nat) : Prop where
  lt : k < 20
  no : (m.fs k).op = false
  all : ∀ j, j < k → (m.fs j).op = true
theorem range_split (k n : Nat) (h : k < n) : List.range n = List.range k ++ k :: (List.range n).drop (k + 1) := by
  have h1 : (List.range n).take k = List.range k := by rw [List.take_range, Nat.min_eq_left (by omega)]
  have h2 : (List.range n).drop k = k :: (List.range n).drop (k + 1) := by
    rw [List.drop_eq_getElem_cons (by rw [List.length_range]; exact h), List.getElem_range]
  rw [← h1, ← h2, List.take_append_drop]
theorem room_split {m : RW} {k : Nat} (h : m.room k) : m.openF 20 = List.range k ++ ((List.range 20).drop (k + 1)).filter fun i => (m.fs i).op := by
  unfold RW.openF
  conv => lhs; rw [range_split k 20 h.lt]
  rw [List.filter_append, List.filter_cons_of_neg (by rw [h.no]; decide), List.filter_eq_self.2 fun i hi => h.all i (List.mem_range.1 hi)]
theorem leastN_range (fs : Nat → RFl) : ∀ (k b : Nat) (r : List MFl), leastN ((List.range' b k).map (fun i => (fs i).mf i) ++ r) (b + 1) = leastN r (b + k + 1)
  | 0, b, r => rfl
  | k + 1, b, r => by
    have ih := leastN_range fs k (b + 1) r
    rw [List.range'_succ, List.map_cons, List.cons_append]
    refine Eq.trans (show _ = leastN ((List.range' (b + 1) k).map (fun i => (fs i).mf i) ++ r) (if ((fs b).mf b).num = b + 1 then b + 1 + 1 else b + 1) from rfl) ?_
    rw [if_pos (show ((fs b).mf b).num = b + 1 from rfl), ih, show b + 1 + k + 1 = b + (k + 1) + 1 by omega]
theorem room_addN {m : RW} {k : Nat} (h : m.room k) : m.mw.addN = k + 1 := by
  unfold MW.addN
  show leastN ((m.openF 20).map fun i => (m.fs i).mf i) 1 = k + 1
  rw [room_split h, List.map_append, List.range_eq_range']
  rw [leastN_range m.fs k 0, Nat.zero_add]
  refine leastN_gt _ _ fun f hf => ?_
  obtain ⟨i, hi, rfl⟩ := List.mem_map.1 hf
  obtain ⟨hi, _⟩ := List.mem_filter.1 hi
  obtain ⟨q, hq, rfl⟩ := List.mem_iff_getElem.1 hi
  rw [List.getElem_drop, List.getElem_range]
  show k + 1 < k + 1 + q + 1
  omega
theorem room_addF {m : RW} {k : Nat} (h : m.room k) (id : Nat) : m.mw.addF id = (m.setF k (freshR id)).mw := by
  unfold MW.addF
  rw [room_addN h, Nat.add_sub_cancel]
  have e1 : m.mw.files = (List.range k).map (fun i => (m.fs i).mf i) ++ (((List.range 20).drop (k + 1)).filter fun i => (m.fs i).op).map fun i => (m.fs i).mf i := by
    show (m.openF 20).map _ = _
    rw [room_split h, List.map_append]
  have hlen : ((List.range k).map fun i => (m.fs i).mf i).length = k := by simp
  have e2 : (m.setF k (freshR id)).openF 20 = List.range k ++ k :: ((List.range 20).drop (k + 1)).filter fun i => (m.fs i).op := by
    unfold RW.openF
    conv => lhs; rw [range_split k 20 h.lt]
    rw [List.filter_append, List.filter_cons_of_pos (by rw [setF_same]; rfl), List.filter_eq_self.2 fun i hi => by
      have := List.mem_range.1 hi
      rw [setF_other _ _ _ (by omega)]; exact h.all i this]
    congr 2
    refine List.filter_congr fun i hi => ?_
    obtain ⟨q, hq, rfl⟩ := List.mem_iff_getElem.1 hi
    rw [List.getElem_drop, List.getElem_range, setF_other _ _ _ (by omega)]
  unfold RW.mw
  rw [e2]
  simp only [MW.mk.injEq]
  refine ⟨rfl, rfl, ?_⟩
  show m.mw.files.take k ++ freshF (k + 1) id :: m.mw.files.drop k = _
  rw [e1, List.take_append_of_le_length (by omega), List.take_of_length_le (by omega), List.drop_append_of_le_length (by omega), List.drop_eq_nil_of_le (by omega), List.nil_append, List.map_append, List.map_cons]
  congr 1
  · refine List.map_congr_left fun i hi => ?_
    have := List.mem_range.1 hi
    rw [setF_other _ _ _ (by omega)]
  · congr 1
    · rw [setF_same]; rfl
    · refine List.map_congr_left fun i hi => ?_
      obtain ⟨hi, _⟩ := List.mem_filter.1 hi
      obtain ⟨q, hq, rfl⟩ := List.mem_iff_getElem.1 hi
      rw [List.getElem_drop, List.getElem_range, setF_other _ _ _ (by omega)]
theorem RW.good.setF {m : RW} (h : m.good) {i : Nat} {f : RFl} (hf : f.op = true → f.bk < m.list.length ∧ m.gone[f.bk]? = some false) : (m.setF i f).good where
  gn := h.gn
  bk := fun j hj ho => by
    by_cases e : j = i
    · subst e; rw [setF_same] at ho ⊢; exact (hf ho).1
    · rw [setF_other _ _ _ e] at ho ⊢; exact h.bk j hj ho
  live := fun j hj ho => by
    by_cases e : j = i
    · subst e; rw [setF_same] at ho ⊢; exact (hf ho).2
    · rw [setF_other _ _ _ e] at ho ⊢; exact h.live j hj ho
theorem RW.good.addB {m : RW} (h : m.good) (x : ABk) : (m.addB x).good where
  gn := by show (m.gone ++ [false]).length = (m.list ++ [x]).length; rw [List.length_append, List.length_append, h.gn]; rfl
  bk := fun j hj ho => by
    have := h.bk j hj ho
    show (m.fs j).bk < (m.list ++ [x]).length
    rw [List.length_append]; omega
  live := fun j hj ho => by
    have h1 := h.bk j hj ho
    have h2 := h.live j hj ho
    show (m.gone ++ [false])[(m.fs j).bk]? = some false
    rw [List.getElem?_append_left (by rw [h.gn]; exact h1)]; exact h2
theorem addB_new (m : RW) (h : m.gone.length = m.list.length) (x : ABk) : m.list.length < (m.addB x).list.length ∧ (m.addB x).gone[m.list.length]? = some false := by
  refine ⟨by show _ < (m.list ++ [x]).length; rw [List.length_append, List.length_singleton]; omega, ?_⟩
  show (m.gone ++ [false])[m.list.length]? = some false
  rw [← h, List.getElem?_append_right (Nat.le_refl _), Nat.sub_self]; rfl
theorem find_live {m : RW} {s : ByteArray} {j : Nat} (h : m.find s = some j) : j < m.list.length ∧ m.gone[j]? = some false := find_lt h
theorem std_good {m : RW} (h : m.good) (i : Nat) (s : ByteArray) : (m.std i s).good := by
  unfold RW.std
  cases hf : m.find s with
  | some j => exact h.setF fun _ => find_lt hf
  | none => exact (h.addB _).setF fun _ => addB_new m h.gn _
theorem room_next {m : RW} {i : Nat} (h : m.room i) (hi : i + 1 < 20) (hn : (m.fs (i + 1)).op = false) (s : ByteArray) : (m.std i s).room (i + 1) := by
  have key : ∀ (m' : RW) (b : Nat), m'.fs = m.fs → (m'.setF i (freshR b)).room (i + 1) := fun m' b e => by
    refine ⟨hi, ?_, fun j hj => ?_⟩
    · rw [setF_other _ _ _ (by omega), e]; exact hn
    · by_cases e' : j = i
      · subst e'; rw [setF_same]; rfl
      · rw [setF_other _ _ _ e', e]; exact h.all j (by omega)
  unfold RW.std
  split
  · exact key m _ rfl
  · exact key _ _ rfl
theorem std_fs (m : RW) (i : Nat) (s : ByteArray) {j : Nat} (h : j ≠ i) : (m.std i s).fs j = m.fs j := by
  unfold RW.std
  split
  · exact setF_other _ _ _ h
  · exact setF_other _ _ _ h
theorem rw_ext {a b : RW} (h1 : a.list = b.list) (h2 : a.gone = b.gone) (h3 : ∀ i, a.fs i = b.fs i) : a = b := by
  obtain ⟨l, g, f⟩ := a
  obtain ⟨l', g', f'⟩ := b
  simp only at h1 h2 h3
  rw [h1, h2, funext h3]
/-- one step of New -/
theorem std_sim {m : RW} (h : m.good) {i : Nat} (hr : m.room i) (s : ByteArray) : m.mw.std i s = if i = 1 then (m.std i s).outF.mw else (m.std i s).mw := by
  have key : ∀ (m' : RW) (b : MBk), m'.good → m'.room i → b.id < m'.list.length → m'.gone[b.id]? = some false → (∀ hl : b.id < m'.list.length, b.text = (m'.list[b.id]'hl).text.data.toList) → m'.mw.stdF b = if i = 1 then (m'.setF i (freshR b.id)).outF.mw else (m'.setF i (freshR b.id)).mw := fun m' b hg hr hb hgn ht => by
    unfold MW.stdF
    rw [room_addN hr, room_addF hr]
    by_cases e : i = 1
    · subst e
      rw [if_pos rfl, if_pos rfl]
      have hop : ((m'.setF 1 (freshR b.id)).fs 1).op = true := by rw [setF_same]; rfl
      have htx : ((m'.setF 1 (freshR b.id)).text 1) = (m'.list[b.id]'hb).text := by
        have hlt : ((m'.setF 1 (freshR b.id)).fs 1).bk < (m'.setF 1 (freshR b.id)).list.length := by rw [setF_same]; exact hb
        have e0 : ((m'.setF 1 (freshR b.id)).fs 1).bk = b.id := by rw [setF_same]; rfl
        unfold RW.text
        rw [e0, List.getD_eq_getElem?_getD]
        show (m'.list[b.id]?.getD _).text = _
        rw [List.getElem?_eq_getElem hb]
        rfl
      unfold RW.outF
      rw [mw_setF hop (show ({ (m'.setF 1 (freshR b.id)).fs 1 with mood := 2, pos := ((m'.setF 1 (freshR b.id)).text 1).size } : RFl).op = true from hop), htx, setF_same]
      congr 1
      unfold RFl.mf freshR freshF
      simp only [MFl.mk.injEq, true_and, and_true]
      rw [ht hb]
      simp
    · rw [if_neg (by omega), if_neg e]
  unfold MW.std RW.std
  cases hf : m.find s with
  | some j =>
    rw [mw_find_some hf]
    exact key m ⟨j, _, _, _⟩ h hr (find_lt hf).1 (find_lt hf).2 (fun _ => rfl)
  | none =>
    rw [mw_find_none hf]
    have h1 := mw_addB h.gn ⟨s, ⟨#[]⟩, decide (0 < i)⟩
    have h2 := addB_new m h.gn ⟨s, ⟨#[]⟩, decide (0 < i)⟩
    have h3 := key (m.addB ⟨s, ⟨#[]⟩, decide (0 < i)⟩) ⟨m.list.length, s, [], decide (0 < i)⟩ (h.addB _) ⟨hr.lt, hr.no, hr.all⟩ h2.1 h2.2 (fun hl => by
      have e : (m.addB ⟨s, ⟨#[]⟩, decide (0 < i)⟩).list[m.list.length]? = some ⟨s, ⟨#[]⟩, decide (0 < i)⟩ := by
        show (m.list ++ [_])[m.list.length]? = _
        rw [List.getElem?_append_right (Nat.le_refl _), Nat.sub_self]; rfl
      have e2 : (m.addB ⟨s, ⟨#[]⟩, decide (0 < i)⟩).list[m.list.length]'hl = ⟨s, ⟨#[]⟩, decide (0 < i)⟩ := by
        rw [List.getElem?_eq_getElem hl] at e; exact Option.some.inj e
      show [] = ((m.addB ⟨s, ⟨#[]⟩, decide (0 < i)⟩).list[m.list.length]'hl).text.data.toList
      rw [e2])
    rw [h1] at h3
    exact h3
theorem text_app (m : RW) (x : ABk) (k : Nat) (h : (m.fs k).bk < m.list.length) : (m.addB x).text k = m.text k := by
  have h' : ((m.addB x).fs k).bk < (m.addB x).list.length := by
    show _ < (m.list ++ [x]).length
    rw [List.length_append]; exact Nat.lt_of_lt_of_le h (Nat.le_add_right _ _)
  rw [RW.text_at h', RW.text_at h]
  congr 1
  exact List.getElem_append_left h
theorem outF_std (m : RW) (s : ByteArray) (h : (m.fs 1).bk < m.list.length) : m.outF.std 2 s = (m.std 2 s).outF := by
  have hf : m.outF.find s = m.find s := rfl
  unfold RW.std
  rw [hf]
  cases m.find s with
  | some j =>
    refine rw_ext rfl rfl fun i => ?_
    show (if i = 2 then freshR j else if i = 1 then ({ m.fs 1 with mood := 2, pos := (m.text 1).size } : RFl) else m.fs i) = (if i = 1 then ({ (m.setF 2 (freshR j)).fs 1 with mood := 2, pos := ((m.setF 2 (freshR j)).text 1).size } : RFl) else if i = 2 then freshR j else m.fs i)
    have e1 : (m.setF 2 (freshR j)).fs 1 = m.fs 1 := setF_other _ _ _ (by decide)
    have e2 : (m.setF 2 (freshR j)).text 1 = m.text 1 := by unfold RW.text; rw [e1]; rfl
    rw [e1, e2]
    by_cases h2 : i = 2
    · subst h2; rw [if_pos rfl, if_neg (by decide), if_pos rfl]
    · rw [if_neg h2, if_neg h2]
  | none =>
    refine rw_ext rfl rfl fun i => ?_
    have e1 : ((m.addB ⟨s, ⟨#[]⟩, decide (0 < 2)⟩).setF 2 (freshR m.list.length)).fs 1 = m.fs 1 := setF_other _ _ _ (by decide)
    have e2 : ((m.addB ⟨s, ⟨#[]⟩, decide (0 < 2)⟩).setF 2 (freshR m.list.length)).text 1 = m.text 1 := by
      rw [← text_app m ⟨s, ⟨#[]⟩, decide (0 < 2)⟩ 1 h]
      unfold RW.text; rw [e1]; rfl
    show (if i = 2 then freshR m.list.length else if i = 1 then ({ m.fs 1 with mood := 2, pos := (m.text 1).size } : RFl) else m.fs i) = (if i = 1 then ({ ((m.addB ⟨s, ⟨#[]⟩, decide (0 < 2)⟩).setF 2 (freshR m.list.length)).fs 1 with mood := 2, pos := (((m.addB ⟨s, ⟨#[]⟩, decide (0 < 2)⟩).setF 2 (freshR m.list.length)).text 1).size } : RFl) else if i = 2 then freshR m.list.length else m.fs i)
    rw [e1, e2]
    by_cases h2 : i = 2
    · subst h2; rw [if_pos rfl, if_neg (by decide), if_pos rfl]
    · rw [if_neg h2, if_neg h2]
theorem newBooks_sim : ∀ (l pre : List ABk) (m : MW), (newBooks pre m l).2 = checkAll pre l ∧ (checkAll pre l = 0 → (newBooks pre m l).1 = ⟨m.next + l.length, m.books ++ liveL l (l.map fun _ => false) m.next, m.files⟩)
  | [], pre, m => ⟨rfl, fun _ => by unfold newBooks liveL; simp⟩
  | x :: r, pre, m => by
    obtain ⟨h1, h2⟩ := newBooks_sim r (pre ++ [x]) (m.addB x.name x.text.data.toList x.write)
    unfold newBooks checkAll
    cases hx : checkR x pre with
    | zero =>
      refine ⟨h1, fun h => ?_⟩
      have h3 := h2 h
      have e : m.next + (x :: r).length = m.next + 1 + r.length := by rw [List.length_cons]; omega
      rw [e]
      refine h3.trans ?_
      show (⟨m.next + 1 + r.length, (m.books ++ [_]) ++ liveL r _ (m.next + 1), m.files⟩ : MW) = _
      rw [List.append_assoc]
      rfl
    | succ e => exact ⟨rfl, fun h => by cases h⟩
theorem rstart_good (bs : List ABk) : (rstart bs).good := ⟨by simp [rstart], fun i _ ho => (by cases ho), fun i _ ho => (by cases ho)⟩
theorem outF_good {m : RW} (h : m.good) (ho : (m.fs 1).op = true) : m.outF.good := h.setF fun _ => ⟨h.bk 1 (by decide) ho, h.live 1 (by decide) ho⟩
/-- New makes the same -/
theorem new_sim (bs : List ABk) : (newR bs).2 = (rnewR bs).2 ∧ ((rnewR bs).2 = 0 → (newR bs).1 = (rnewR bs).1.mw ∧ (rnewR bs).1.good) := by
  unfold newR rnewR
  by_cases hb : 64 < bs.length
  · rw [if_pos hb, if_pos hb]
    exact ⟨rfl, fun h => by cases h⟩
  rw [if_neg hb, if_neg hb]
  obtain ⟨h1, h2⟩ := newBooks_sim bs [] ⟨0, [], []⟩
  cases hc : checkAll [] bs with
  | succ e =>
    rw [hc] at h1
    obtain ⟨M, E, hnb⟩ : ∃ M E, newBooks [] ⟨0, [], []⟩ bs = (M, E) := ⟨_, _, rfl⟩
    rw [hnb] at h1
    obtain rfl : E = e + 1 := h1
    rw [hnb]
    exact ⟨rfl, fun h => by cases h⟩
  | zero =>
    rw [hc] at h1
    have h3 := h2 hc
    obtain ⟨M, E, hnb⟩ : ∃ M E, newBooks [] ⟨0, [], []⟩ bs = (M, E) := ⟨_, _, rfl⟩
    rw [hnb] at h1 h3
    obtain rfl : E = 0 := h1
    rw [hnb]
    refine ⟨rfl, fun _ => ?_⟩
    have hM : M = (rstart bs).mw := by
      rw [show M = _ from h3, Nat.zero_add, List.nil_append]
      unfold RW.mw rstart
      simp only [MW.mk.injEq, true_and]
      rfl
    have g0 := rstart_good bs
    have r0 : (rstart bs).room 0 := ⟨by decide, rfl, fun j hj => absurd hj (Nat.not_lt_zero _)⟩
    have g1 := std_good g0 0 (nameAt 0)
    have r1 := room_next r0 (by decide) rfl (nameAt 0)
    have g2 := std_good g1 1 (nameAt 1)
    have c2 : ((((rstart bs).std 0 (nameAt 0))).fs 2).op = false := by rw [std_fs _ _ _ (by decide)]; rfl
    have r2 := room_next r1 (by decide) c2 (nameAt 1)
    have o2 : ((((rstart bs).std 0 (nameAt 0)).std 1 (nameAt 1)).fs 1).op = true := r2.all 1 (by decide)
    have g2' := outF_good g2 o2
    have r2' : (((rstart bs).std 0 (nameAt 0)).std 1 (nameAt 1)).outF.room 2 := by
      refine ⟨by decide, (congrArg RFl.op (setF_other _ _ _ (by decide))).trans r2.no, fun j hj => ?_⟩
      by_cases e : j = 1
      · subst e; exact (congrArg RFl.op (setF_same _ _ _)).trans o2
      · exact (congrArg RFl.op (setF_other _ _ _ e)).trans (r2.all j hj)
    have s0 := std_sim g0 r0 (nameAt 0)
    have s1 := std_sim g1 r1 (nameAt 1)
    have s2 := std_sim g2' r2' (nameAt 2)
    rw [if_neg (by decide)] at s0 s2
    rw [if_pos rfl] at s1
    have e3 := outF_std (((rstart bs).std 0 (nameAt 0)).std 1 (nameAt 1)) (nameAt 2) (g2.bk 1 (by decide) o2)
    have o3 : (((((rstart bs).std 0 (nameAt 0)).std 1 (nameAt 1)).std 2 (nameAt 2)).fs 1).op = true := by rw [std_fs _ _ _ (by decide)]; exact o2
    refine ⟨?_, ?_⟩
    · show ((M.std 0 (nameAt 0)).std 1 (nameAt 1)).std 2 (nameAt 2) = _
      rw [hM, s0, s1, s2, e3]
      rfl
    · exact outF_good (std_good g2 2 (nameAt 2)) o3
def IAt (w : World) (a : Option Addr) (xs : List Int) : Prop := ∀ i (hi : i < xs.length), ∃ g o, a = some ⟨g, o, none⟩ ∧ w.cell? ⟨g, o + i, none⟩ = some (.int .i64 (xs[i]'hi))
theorem IAt.below {w w' : World} {a : Option Addr} {xs : List Int} (h : IAt w a xs) (hb : Below w.heap.size w w') : IAt w' a xs := by
  intro i hi
  obtain ⟨g, o, ha, h0⟩ := h i hi
  exact ⟨g, o, ha, (hb.cell (World.block_lt_of_cell? w _ h0)).trans h0⟩
theorem eq_ints (xs : List Int) (a b : Option Addr) (ca cb : Nat) (w : World) (hx : xs.length ≤ 1000) (hca : xs.length ≤ ca) (hcb : xs.length ≤ cb) (hA : IAt w a xs) (hB : IAt w b xs) :
    Calls Try.prog 33 #[.slice a xs.length ca, .slice b xs.length cb] w fun e w' => e = .returned (.bool true) ∧ Below w.heap.size w w' := by
  have HA := Aside0.mk hA
  have HB := Aside0.mk hB
  have HW := Aside0.mk (Below.refl w.heap.size w)
  clear hA hB
  go_enter Try.func33, Try.ntmps33
  go_wp2
  go_loopw [13] (fun i wr => ∃ k : Nat, k ≤ xs.length ∧ i = .int .i64 k ∧ Aside0 (Below w.heap.size w wr)) (fun i _ => xs.length - (intOf i).toNat)
  case atStart => exact ⟨0, Nat.zero_le _, rfl, HW⟩
  case round =>
    obtain ⟨k, hk, rfl, HR⟩ := hrel
    by_cases hlt : k < xs.length
    · obtain ⟨g, o, rfl, h0⟩ := (HA.out.below HR.out) k hlt
      obtain ⟨g', o', rfl, h0'⟩ := (HB.out.below HR.out) k hlt
      generalize xs[k] = x at *
      go_wp2
      go_region
      go_wp2
      go_roundw
      case rel => exact ⟨k + 1, by omega, by go_num, ⟨HR.out.drew⟩⟩
      case measure => simp [intOf]; omega
    · obtain rfl : k = xs.length := by omega
      go_wp2
      go_ret
      exact ⟨rfl, HR.out⟩
theorem eq_books (bs : List ABk) (a b : Option Addr) (ca cb : Nat) (w : World) (hx : bs.length ≤ 1000) (hca : bs.length ≤ ca) (hcb : bs.length ≤ cb) (hA : AAt w a bs) (hB : AAt w b bs) :
    Calls Try.prog 31 #[.slice a bs.length ca, .slice b bs.length cb] w fun e w' => e = .returned (.bool true) ∧ Below w.heap.size w w' := by
  have HA := Aside0.mk hA
  have HB := Aside0.mk hB
  have HW := Aside0.mk (Below.refl w.heap.size w)
  clear hA hB
  go_enter Try.func31, Try.ntmps31
  go_wp2
  go_loopw [13] (fun i wr => ∃ k : Nat, k ≤ bs.length ∧ i = .int .i64 k ∧ Aside0 (Below w.heap.size w wr)) (fun i _ => bs.length - (intOf i).toNat)
  case atStart => exact ⟨0, Nat.zero_le _, rfl, HW⟩
  case round =>
    obtain ⟨k, hk, rfl, HR⟩ := hrel
    by_cases hlt : k < bs.length
    · obtain ⟨g, o, rfl, h0, h1, h2⟩ := (HA.out.below HR.out) k hlt
      obtain ⟨g', o', rfl, h0', h1', h2'⟩ := (HB.out.below HR.out) k hlt
      generalize bs[k] = x at *
      go_wp2
      go_region
      go_wp2
      go_roundw
      case rel => exact ⟨k + 1, by omega, by go_num, ⟨HR.out.drew⟩⟩
      case measure => simp [intOf]; omega
    · obtain rfl : k = bs.length := by omega
      go_wp2
      go_ret
      exact ⟨rfl, HR.out⟩
def BRow (w : World) (v : Value) (bs : List ABk) : Prop := ∃ a c, v = .slice a bs.length c ∧ AAt w a bs ∧ bs.length ≤ c ∧ c ≤ maxLen ∧ (a = none → bs = [] ∧ c = 0)
theorem own_brow {w : World} {base : Nat} {v : Value} {bs : List ABk} (h : w.ownsRow base 26 3 v bs.length (bs.flatMap ABk.cl)) : BRow w v bs := by
  have hr := h
  rcases h.2 with ⟨h1, h2⟩ | ⟨g, c, cur, h1, _, _, hc, hm, _⟩
  · have hb : bs = [] := List.length_eq_zero_iff.1 h2
    subst hb
    exact ⟨none, 0, h1, fun i hi => absurd hi (Nat.not_lt_zero _), Nat.le_refl _, Nat.zero_le _, fun _ => ⟨rfl, rfl⟩⟩
  · refine ⟨_, c, h1, fun i hi => ⟨g, 0, rfl, ?_, ?_, ?_⟩, hc, hm, fun e => by cases e⟩
    all_goals rw [h1] at hr
    · rw [hr.cellAt _ (by omega), Nat.zero_add]; exact flat_get (f := ABk.cl) (n := 3) (fun _ => rfl) bs i hi 0 (by decide)
    · rw [hr.cellAt _ (by omega), Nat.zero_add]; exact flat_get (f := ABk.cl) (n := 3) (fun _ => rfl) bs i hi 1 (by decide)
    · rw [hr.cellAt _ (by omega), Nat.zero_add]; exact flat_get (f := ABk.cl) (n := 3) (fun _ => rfl) bs i hi 2 (by decide)
theorem clone_books (bs : List ABk) (a : Option Addr) (cap : Nat) (w : World) (hA : AAt w a bs) (ha : a = none → bs = [] ∧ cap = 0) (hl : bs.length ≤ 1000) :
    Calls Try.prog 9 #[.slice a bs.length cap] w fun e w' => (∃ v, e = .returned v ∧ BRow w' v bs) ∧ Below w.heap.size w w' := by
  cases a with
  | none =>
    obtain ⟨rfl, rfl⟩ := ha rfl
    have hnil := Lib.run_eql_slice_nil (P := Try.prog) w 22 26 none 0 0 0 0 Try.underlying22
    go_enter Try.func9, Try.ntmps9
    go_wp2
    go_ret
    exact ⟨⟨_, rfl, none, 0, rfl, fun i hi => absurd hi (Nat.not_lt_zero _), Nat.le_refl _, Nat.zero_le _, fun _ => ⟨rfl, rfl⟩⟩, Below.refl _ _⟩
  | some a =>
    have hbl := (Below.refl w.heap.size w).alloc (Nat.le_refl _) (.cells #[] 26)
    have hlit := World.ownsRow_lit (base := w.heap.size) (e := 26) (size := 3) w #[] 0 (Nat.le_refl _) (Nat.zero_le _) rfl
    obtain ⟨v1, w1, hr, hrow, hgr, hv⟩ := append_all bs (some a) cap _ (hA.below hbl) (fun h => by cases h) _ 0 [] w.heap.size hbl.size hlit (by omega) 22
    rw [Nat.zero_add, List.nil_append] at hrow
    have HRUN := Aside0.mk hr
    have HROW := Aside0.mk (own_brow hrow)
    have HB := Aside0.mk (hbl.grown hgr hbl.size (fun q hq => (hlit.lt q hq).1))
    clear hA ha hbl hlit hr hrow hgr hv
    have hnil := Lib.run_eql_slice_nil (P := Try.prog) w 22 26 (some a) bs.length cap 0 0 Try.underlying22
    go_enter Try.func9, Try.ntmps9
    go_wp2_with (at_builtin; refine Lib.wpList_append_run _ rfl _ _ _ _ rfl _ _ rfl rfl _ _ HRUN.out ?_)
    go_ret
    exact ⟨⟨_, rfl, HROW.out⟩, HB.out⟩
def fewB (x : ABk) : Bool := decide (600 < x.text.size) || decide (60 < x.name.size)
theorem few_one (x : ABk) (w : World) (r : Bool) (hr : fewB x = r) (h1 : x.text.size ≤ 9223372036854775807) (h2 : x.name.size ≤ 9223372036854775807) : Calls Try.prog 7 #[.agg #[.string x.name, .string x.text, .bool x.write]] w fun e w' => e = .returned (.bool r) ∧ Below w.heap.size w w' := by
  subst hr
  unfold fewB
  by_cases h3 : 600 < x.text.size
  · have h3' : (600 : Int) < x.text.size := by omega
    rw [decide_eq_true h3]
    go_enter Try.func7, Try.ntmps7
    go_wp2
    go_ret
    exact ⟨rfl, below_alloc (Below.refl _ _) _⟩
  · have h3' : ¬ (600 : Int) < x.text.size := by omega
    by_cases h4 : 60 < x.name.size
    · have h4' : (60 : Int) < x.name.size := by omega
      rw [decide_eq_false h3, decide_eq_true h4]
      go_enter Try.func7, Try.ntmps7
      go_wp2
      go_ret
      exact ⟨rfl, below_alloc (Below.refl _ _) _⟩
    · have h4' : ¬ (60 : Int) < x.name.size := by omega
      rw [decide_eq_false h3, decide_eq_false h4]
      go_enter Try.func7, Try.ntmps7
      go_wp2
      go_ret
      exact ⟨rfl, below_alloc (Below.refl _ _) _⟩
theorem few_idx (bs : List ABk) (a : Option Addr) (cap : Nat) (w : World) (hlen : bs.length ≤ 100) (hA : AAt w a bs) (hn : ∀ x ∈ bs, x.name.size ≤ 9223372036854775807 ∧ x.text.size ≤ 9223372036854775807) (R : Bool) (hR : bs.any fewB = R) :
    Calls Try.prog 24 #[.slice a bs.length cap, .func (.func 7) #[] #[]] w fun e w' => (∃ r : Int, e = .returned (.int .i64 r) ∧ decide (0 ≤ r) = R) ∧ Below w.heap.size w w' := by
  have HA := Aside0.mk hA
  have HR := Aside0.mk hR
  have HN := Aside0.mk hn
  clear hA hR hn
  have HB0 := Aside0.mk (Below.refl w.heap.size w)
  go_enter Try.func24, Try.ntmps24
  go_wp2
  go_loopw [8] (fun i wr => ∃ k : Nat, k ≤ bs.length ∧ i = .int .i64 k ∧ Aside0 (Below w.heap.size w wr) ∧ Aside0 ((bs.take k).any fewB = false)) (fun i _ => bs.length - (intOf i).toNat)
  case atStart => exact ⟨0, Nat.zero_le _, rfl, HB0, ⟨by simp⟩⟩
  case round =>
    obtain ⟨k, hk, rfl, HB, HK⟩ := hrel
    by_cases hlt : k < bs.length
    · obtain ⟨g, o, rfl, h0, h1, h2⟩ := (HA.out.below HB.out) k hlt
      have hsn : (bs.take (k + 1)).any fewB = fewB bs[k] := by
        rw [List.take_succ_eq_append_getElem hlt, List.any_append, HK.out]; simp
      have HSN := Aside0.mk hsn
      have HM := Aside0.mk (List.getElem_mem hlt)
      clear hsn
      generalize bs[k] = x at *
      have HC := Aside0.mk (few_one x wr _ rfl (HN.out x HM.out).2 (HN.out x HM.out).1)
      cases hq : fewB x with
      | true =>
        rw [hq] at HC HSN
        have hany : bs.any fewB = true := List.any_eq_true.2 ⟨x, HM.out, hq⟩
        obtain rfl : true = R := hany.symm.trans HR.out
        clear hq hany
        go_wp2_with (go_at_call 7; refine HC.out.mono ?_; rintro e w' ⟨rfl, hb⟩)
        go_ret
        exact ⟨⟨k, rfl, decide_eq_true (by omega)⟩, below_step HB.out hb⟩
      | false =>
        rw [hq] at HC HSN
        clear hq
        go_wp2_with (go_at_call 7; refine HC.out.mono ?_; rintro e w' ⟨rfl, hb⟩)
        go_roundw
        case rel => exact ⟨k + 1, by omega, by go_num, ⟨below_step HB.out hb⟩, HSN⟩
        case measure => simp [intOf]; omega
    · obtain rfl : k = bs.length := by omega
      have hany := HK.out
      rw [List.take_length] at hany
      obtain rfl : false = R := hany.symm.trans HR.out
      clear hany
      go_wp2
      go_ret
      exact ⟨⟨-1, rfl, rfl⟩, HB.out⟩
theorem few_has (bs : List ABk) (a : Option Addr) (cap : Nat) (w : World) (hlen : bs.length ≤ 100) (hA : AAt w a bs) (hn : ∀ x ∈ bs, x.name.size ≤ 9223372036854775807 ∧ x.text.size ≤ 9223372036854775807) (R : Bool) (hR : bs.any fewB = R) :
    Calls Try.prog 6 #[.slice a bs.length cap, .func (.func 7) #[] #[]] w fun e w' => e = .returned (.bool R) ∧ Below w.heap.size w w' := by
  have HI := Aside0.mk (few_idx bs a cap w hlen hA hn _ rfl)
  rw [hR] at HI
  clear hA hR
  go_enter Try.func6, Try.ntmps6
  go_wp2_with (go_at_call 24; refine HI.out.mono ?_; rintro e w' ⟨⟨r, rfl, hr⟩, hb⟩)
  go_ret
  exact ⟨rfl, hb⟩
theorem brow_below {w w' : World} {v : Value} {bs : List ABk} (h : BRow w v bs) (hb : Below w.heap.size w w') : BRow w' v bs := by
  obtain ⟨a, c, h1, h2, h3, h4, h5⟩ := h
  exact ⟨a, c, h1, h2.below hb, h3, h4, h5⟩
theorem own_irow {w : World} {base : Nat} {v : Value} {n : Nat} {xs : List Int} (h : w.ownsRow base 3 1 v n (xs.map fun x => .int .i64 x)) : ∃ a c, v = .slice a xs.length c ∧ IAt w a xs ∧ xs.length ≤ c := by
  have hr := h
  have hn : n = xs.length := by have := h.1; simp at this; omega
  subst hn
  rcases h.2 with ⟨h1, h2⟩ | ⟨g, c, cur, h1, _, _, hc, hm, _⟩
  · exact ⟨none, 0, by rw [h1, h2], fun i hi => by rw [h2] at hi; exact absurd hi (Nat.not_lt_zero _), by rw [h2]; exact Nat.le_refl _⟩
  · refine ⟨_, c, h1, fun i hi => ⟨g, 0, rfl, ?_⟩, hc⟩
    rw [h1] at hr
    rw [Nat.zero_add, hr.cellAt _ (by omega), List.getElem?_map, List.getElem?_eq_getElem hi]; rfl
theorem mw_fnums (m : RW) : (m.mw.files.map fun f => Value.int .i64 f.num) = (((m.openF 20).map fun (i : Nat) => (i : Int) + 1).map fun x => Value.int .i64 x) := by
  rw [(mw_files m).1, List.map_map]; rfl

/-- both worlds show the same -/
theorem alike_walk {κ κ' : Nat → Tag} {L : Lay} {L' : RLay} {r : RW} (w : World) (h : WAt κ L w r.mw) (h' : RAt κ' L' w r) (hg : r.good) :
    Calls Try.prog 11 #[pt L.p, pt L'.p] w fun e w' => e = .returned (.bool true) ∧ Below w.heap.size w w' := by
  have H := Aside0.mk h
  have H' := Aside0.mk h'
  have hlen := h'.ok.ls
  have hsl := r.shown_len r.list.length
  obtain ⟨fx, hfx⟩ : ∃ fx : List Int, (r.openF 20).map (fun (i : Nat) => (i : Int) + 1) = fx := ⟨_, rfl⟩
  have hfl : fx.length ≤ 20 := by rw [← hfx, List.length_map]; exact r.openF_len 20
  have HM := Aside0.mk (mw_fnums r)
  rw [hfx] at HM
  have HN : Aside0 (((r.openF 20).map fun (i : Nat) => Value.int .i64 ((i : Int) + 1)) = fx.map fun x => Value.int .i64 x) := ⟨by rw [← hfx, List.map_map]; rfl⟩
  clear hfx
  obtain ⟨hb1, hb2⟩ := mw_books hg
  have HB1 := Aside0.mk hb1
  have HB2 := Aside0.mk hb2
  have HG := Aside0.mk hg
  clear h h' hb1 hb2 hg
  unfold pt
  go_enter Try.func11, Try.ntmps11
  go_wp2_with fail
  refine (books_walk w H.out).mono ?_
  rintro e w1 ⟨⟨v1, rfl, ho1⟩, hb1⟩
  rw [HB1.out, HB2.out] at ho1
  have hB1 := own_brow ho1
  have HW1 := Aside0.mk hb1
  clear ho1 hb1
  go_wp2_with fail
  refine (r_books w1 (H'.out.below HW1.out)).mono ?_
  rintro e w2 ⟨⟨v2, rfl, ho2⟩, hb2⟩
  have hB2 := own_brow ho2
  have hB1' := brow_below hB1 hb2
  have HW2 := Aside0.mk (below_step HW1.out hb2)
  clear ho2 hb2 hB1 HW1
  obtain ⟨a1, c1, rfl, x1, x2, _, _⟩ := hB1'
  obtain ⟨a2, c2, rfl, y1, y2, _, _⟩ := hB2
  go_wp2_with fail
  refine (eq_books _ a1 a2 c1 c2 w2 (by omega) x2 y2 x1 y1).mono ?_
  rintro e w3 ⟨rfl, hb3⟩
  have HW3 := Aside0.mk (below_step HW2.out hb3)
  clear HW2 hb3 x1 y1
  go_wp2_with fail
  refine (files_walk w3 (H.out.below HW3.out)).mono ?_
  rintro e w4 ⟨⟨v4, rfl, ho4⟩, hb4⟩
  rw [HM.out] at ho4
  obtain ⟨a3, c3, rfl, x3, x4⟩ := own_irow ho4
  have HW4 := Aside0.mk (below_step HW3.out hb4)
  clear ho4 hb4 HW3
  go_wp2_with fail
  refine (r_files w4 (H'.out.below HW4.out)).mono ?_
  rintro e w5 ⟨⟨v5, rfl, ho5⟩, hb5⟩
  rw [HN.out] at ho5
  obtain ⟨a4, c4, rfl, y3, y4⟩ := own_irow ho5
  have x3' := x3.below hb5
  have HW5 := Aside0.mk (below_step HW4.out hb5)
  clear ho5 hb5 HW4 x3
  go_wp2_with fail
  refine (eq_ints fx a3 a4 c3 c4 w5 (by omega) x4 y4 x3' y3).mono ?_
  rintro e w6 ⟨rfl, hb6⟩
  have HW6 := Aside0.mk (below_step HW5.out hb6)
  clear HW5 hb6 x3' y3
  go_wp2
  go_loopw [5] (fun i wr => ∃ k : Nat, k ≤ 22 ∧ i = .int .i64 k ∧ Aside0 (Below w.heap.size w wr)) (fun i _ => 22 - (intOf i).toNat)
  case atStart => exact ⟨0, by omega, rfl, HW6⟩
  case round =>
    obtain ⟨k, hk, rfl, HR⟩ := hrel
    clear HW6
    by_cases hlt : k < 22
    · have HP := Aside0.mk (fun (W : World) (hb : Below w.heap.size w W) => position_walk (m := r.mw) (k : Int) W (H.out.below hb) _ _ _ _ (mw_position HG.out (k : Int)))
      have HP' := Aside0.mk (fun (W : World) (hb : Below w.heap.size w W) => r_Position (m := r) (k : Int) W (H'.out.below hb) (r.posn (k : Int)).1 (r.posn (k : Int)).2.1 (r.posn (k : Int)).2.2.1 (r.posn (k : Int)).2.2.2 rfl)
      unfold pt at HP HP'
      generalize r.posn (k : Int) = q at *
      obtain ⟨q1, q2, q3, q4⟩ := q
      go_wp2_with fail
      refine (HP.out _ HR.out).mono ?_
      rintro e w7 ⟨rfl, hb7⟩
      have HW7 := Aside0.mk (below_step HR.out hb7.below)
      clear hb7
      go_wp2_with fail
      refine (HP'.out _ HW7.out).mono ?_
      rintro e w8 ⟨rfl, hb8⟩
      have HW8 := Aside0.mk (below_step HW7.out hb8.below)
      clear hb8 HW7 HP HP' HR
      go_wp2
      go_loopw [14] (fun v wx => ∃ j : Nat, j ≤ 8 ∧ v = .int .i64 ((j : Int) - 1) ∧ Aside0 (Below w.heap.size w wx)) (fun v _ => 8 - (intOf v + 1).toNat)
      case atStart => exact ⟨0, by omega, rfl, HW8⟩
      case round =>
        obtain ⟨j, hj, rfl, HR2⟩ := hrel
        clear HW8
        by_cases hlt2 : j < 8
        · have HF := Aside0.mk (fun (W : World) (hb : Below w.heap.size w W) => flag_walk (m := r.mw) (k : Int) ((j : Int) - 1) W (H.out.below hb) _ _ (mw_flag r (k : Int) ((j : Int) - 1)))
          have HF' := Aside0.mk (fun (W : World) (hb : Below w.heap.size w W) => r_flag (m := r) (k : Int) ((j : Int) - 1) W (H'.out.below hb) (r.flag (k : Int) ((j : Int) - 1)).1 (r.flag (k : Int) ((j : Int) - 1)).2 rfl)
          have HE := Aside0.mk (fun (W : World) (hb : Below w.heap.size w W) => ended_walk (m := r.mw) (k : Int) ((j : Int) - 1) W (H.out.below hb) _ _ (mw_ended HG.out (k : Int) ((j : Int) - 1)))
          have HE' := Aside0.mk (fun (W : World) (hb : Below w.heap.size w W) => r_ended (m := r) (k : Int) ((j : Int) - 1) W (H'.out.below hb) (r.ended (k : Int) ((j : Int) - 1)).1 (r.ended (k : Int) ((j : Int) - 1)).2 rfl)
          unfold pt at HF HF' HE HE'
          generalize r.flag (k : Int) ((j : Int) - 1) = f1 at *
          generalize r.ended (k : Int) ((j : Int) - 1) = f2 at *
          obtain ⟨g1, g2⟩ := f1
          obtain ⟨g3, g4⟩ := f2
          go_wp2_with fail
          refine (HF.out _ HR2.out).mono ?_
          rintro e w9 ⟨rfl, rfl⟩
          go_wp2_with fail
          refine (HF'.out _ HR2.out).mono ?_
          rintro e w9 ⟨rfl, rfl⟩
          go_wp2_with fail
          refine (HE.out _ HR2.out).mono ?_
          rintro e w9 ⟨rfl, hb9⟩
          have HW9 := Aside0.mk (below_step HR2.out hb9.below)
          clear hb9
          go_wp2_with fail
          refine (HE'.out _ HW9.out).mono ?_
          rintro e w10 ⟨rfl, hb10⟩
          have HW10 := Aside0.mk (below_step HW9.out hb10.below)
          clear hb10 HW9 HF HF' HE HE' HR2
          go_wp2
          go_roundw
          case rel => exact ⟨j + 1, by omega, by go_num, HW10⟩
          case measure => simp [intOf]; omega
        · obtain rfl : j = 8 := by omega
          go_wp2
          go_roundw
          case rel => exact ⟨k + 1, by omega, by go_num, HR2⟩
          case measure => simp [intOf]; omega
    · obtain rfl : k = 22 := by omega
      go_wp2
      go_ret
      exact ⟨rfl, HR.out⟩
theorem RSt.older {κ : Nat → Tag} {L : RLay} {w w' : World} {m : RW} (h : RSt κ0 w κ L w' m) : Below w.heap.size w w' := ⟨h.2.os, h.2.tape, h.2.output, h.2.size, fun k hk => h.2.block k hk rfl⟩
/-- the law BooksNews -/
theorem news_walk (bs : List ABk) (a : Option Addr) (cap : Nat) (w : World) (hA : AAt w a bs) (ha : a = none → bs = [] ∧ cap = 0) (hcap : bs.length ≤ cap) (hcm : cap ≤ maxLen) (hn : ∀ x ∈ bs, x.name.size ≤ 9223372036854775807 ∧ x.text.size ≤ 9223372036854775807) :
    Calls Try.prog 3 #[.slice a bs.length cap] w fun e w' => e = .returned (.bool true) ∧ Below w.heap.size w w' := by
  have HA := Aside0.mk hA
  have HCA := Aside0.mk ha
  have HN := Aside0.mk hn
  have HCM := Aside0.mk hcm
  have hcm' : cap ≤ 9223372036854775807 := hcm
  have hl' : bs.length ≤ 9223372036854775807 := by omega
  clear hA ha hn hcm
  go_enter Try.func3, Try.ntmps3
  go_wp2_with fail
  refine (awake_walk w).mono ?_
  rintro e w1 ⟨rfl, hb1⟩
  have HW1 := Aside0.mk hb1
  clear hb1
  by_cases hbig : 70 < bs.length
  · have hbig' : (70 : Int) < bs.length := by omega
    go_wp2
    go_ret
    exact ⟨rfl, HW1.out⟩
  have hbig' : ¬ (70 : Int) < bs.length := by omega
  obtain ⟨F, hF⟩ : ∃ F, bs.any fewB = F := ⟨_, rfl⟩
  go_wp2_with fail
  refine (few_has bs a cap w1 (by omega) (HA.out.below HW1.out) HN.out F hF).mono ?_
  rintro e w2 ⟨rfl, hb2⟩
  have HW2 := Aside0.mk (below_step HW1.out hb2)
  clear hb2 HW1
  cases F with
  | true =>
    go_wp2
    go_ret
    exact ⟨rfl, HW2.out⟩
  | false =>
    go_wp2_with fail
    refine (clone_books bs a cap w2 (HA.out.below HW2.out) HCA.out (by omega)).mono ?_
    rintro e w3 ⟨⟨v, rfl, hv⟩, hb3⟩
    have HW3 := Aside0.mk (below_step HW2.out hb3)
    obtain ⟨a1, c1, rfl, x1, x2, x3, x4⟩ := hv
    clear hb3 HW2
    obtain ⟨M, E, hnew⟩ : ∃ M E, newR bs = (M, E) := ⟨_, _, rfl⟩
    obtain ⟨R, E', hrnew⟩ : ∃ R E', rnewR bs = (R, E') := ⟨_, _, rfl⟩
    obtain ⟨hs1, hs2⟩ := new_sim bs
    rw [hnew, hrnew] at hs1 hs2
    obtain rfl : E = E' := hs1
    have HS2 := Aside0.mk hs2
    have HNW := Aside0.mk (new_walk bs a1 c1 w3 HN.out (by omega) x1 x2 x3 M E hnew)
    have HRN := Aside0.mk (fun (W : World) (hb : Below w.heap.size w W) => r_new bs a cap W HN.out (by omega) (HA.out.below hb) HCA.out hcap HCM.out R E hrnew)
    clear x1 hs2 hnew hrnew
    go_wp2_with fail
    refine HNW.out.mono ?_
    rintro e w4 hp4
    rcases hp4 with ⟨rfl, κ, L, rfl, hst⟩ | ⟨hE, rfl, hb4⟩
    · have HST := Aside0.mk hst
      have HW4 := Aside0.mk (below_step HW3.out hst.older)
      unfold pt at *
      clear hst HNW
      go_wp2_with fail
      refine (HRN.out _ HW4.out).mono ?_
      rintro e w5 hp5
      rcases hp5 with ⟨_, κ', L', rfl, hst5⟩ | ⟨hE, _⟩
      · obtain ⟨hmw, hgood⟩ := HS2.out (by first | trivial | rfl)
        have hmw' : M = R.mw := hmw
        subst hmw'
        have HAL := Aside0.mk (alike_walk w5 (HST.out.below hst5.older).1 hst5.1 hgood)
        have HW5 := Aside0.mk (below_step HW4.out hst5.older)
        unfold pt at *
        clear hst5 HST HRN HW4
        go_wp2_with fail
        refine HAL.out.mono ?_
        rintro e w6 ⟨rfl, hb6⟩
        have HW6 := Aside0.mk (below_step HW5.out hb6)
        clear hb6
        go_wp2
        go_ret
        exact ⟨rfl, HW6.out⟩
      · exact absurd rfl hE
    · have HW4 := Aside0.mk (below_step HW3.out hb4)
      have hE' : ¬ (E : Int) = 0 := by omega
      clear hb4 HNW
      go_wp2_with fail
      refine (HRN.out _ HW4.out).mono ?_
      rintro e w5 hp5
      rcases hp5 with ⟨h0, _⟩ | ⟨_, rfl, hb5⟩
      · exact absurd h0 hE
      · have HW5 := Aside0.mk (below_step HW4.out hb5)
        clear hb5
        go_wp2
        go_ret
        exact ⟨congrArg (fun b => Ending.returned (.bool b)) (show ((E : Int) != 0) = true by simpa using hE), HW5.out⟩
end Go.Proofs.Ytonmdifmlpfcpaa.PB
