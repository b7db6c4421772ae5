import Derived.StillTailTactics
import Derived.ArgAppend
import Derived.Below
import Derived.BigQuiet
import Derived.Deep.AppendLies
import Derived.Deep.CutBlock
import Derived.Deep.DeepCutAuto
import Derived.Deep.Draws
import Derived.Deep.LoopGhost
import Derived.Deep.OwnRows
import Derived.Deep.QuietTactic
import Derived.Deep.RegionHeld3
import Derived.KernelRfl
import Derived.Laws.Bits64b
import Derived.Laws.BitsLemmas
import Derived.Laws.BytesArg
import Derived.Laws.Externs
import Derived.Laws.IdiomCopy
import Derived.Laws.MakeOwn
import Derived.Laws.MathBits
import Derived.Laws.OwnMore
import Derived.Laws.Rows
import Derived.Laws.Slices
import Derived.Lib.AppendStr
import Derived.Lib.ConvBytes
import Derived.Maps.AppendAt
import Derived.OrdersHeld
import Derived.OwnWalk
import Derived.RowKit
import Derived.RowKit3
import Derived.Tactics
import Derived.Test.YtonmdifmlpfcpaaProg
import Derived.WalkKit
import Derived.WideLaws
import Derived.Lib.Walk
import Derived.Lib.SliceRun
import Derived.Lib.JoinLaws
import Derived.Lib.AppendZeros
import Derived.Lib.Overlaps
import Derived.Lib.AppendZerosOnto
import Derived.Shelf.RegionOpenPlain
import Derived.Shelf.Spec.SlicesInsert
import Derived.Deep.RegionLaw
import Derived.Lib.BufferRead
import Derived.Laws.IdiomStrings
import Derived.Test.YtonmdifmlpfcpaaWWords
import Derived.Test.YtonmdifmlpfcpaaWLast
import Derived.Test.YtonmdifmlpfcpaaWTab
import Derived.Test.YtonmdifmlpfcpaaWFour
import Derived.Test.YtonmdifmlpfcpaaWQPut
import Derived.Test.YtonmdifmlpfcpaaWApart
import Derived.Test.YtonmdifmlpfcpaaWArr
import Derived.Test.YtonmdifmlpfcpaaWZeros
import Derived.Test.YtonmdifmlpfcpaaWFoot
import Derived.Test.YtonmdifmlpfcpaaWKept
import Derived.Test.YtonmdifmlpfcpaaWShare
import Derived.Test.YtonmdifmlpfcpaaWN
import Derived.Test.YtonmdifmlpfcpaaWFootNe
import Derived.Test.YtonmdifmlpfcpaaWAt
import Derived.Test.YtonmdifmlpfcpaaWEqStruct
import Derived.Test.YtonmdifmlpfcpaaWRepsOne
import Derived.Test.YtonmdifmlpfcpaaWInv
import Derived.Test.YtonmdifmlpfcpaaWInvWords
import Derived.Test.YtonmdifmlpfcpaaWGuard
import Derived.Test.YtonmdifmlpfcpaaWNEv
import Derived.Test.YtonmdifmlpfcpaaWMore
import Derived.Test.YtonmdifmlpfcpaaNwD
namespace Go.Proofs.Ytonmdifmlpfcpaa.PB
open Go.RowKit Go.Proofs.YtonmdifmlpfcpaaW.PrintWords Go.Proofs.YtonmdifmlpfcpaaW.PrintLast Go.Proofs.YtonmdifmlpfcpaaW.PrintMore
set_option linter.unusedVariables false
set_option linter.unusedSimpArgs false
set_option maxRecDepth 100000
set_option maxHeartbeats 1000000
/-! ### the reference's worlds as plain data -/
structure RFl where
  op : Bool
  bk : Nat
  pos : Nat
  mood : Nat
  fl : Nat → Bool
structure RW where
  list : List ABk
  gone : List Bool
  fs : Nat → RFl
structure RW.ok (m : RW) : Prop where
  ls : m.list.length ≤ 1000
  gn : m.gone.length = m.list.length
  tx : ∀ b ∈ m.list, b.text.size ≤ 1048576
  bk : ∀ i, i < 20 → (m.fs i).op = true → (m.fs i).bk < m.list.length
  pos : ∀ i, i < 20 → (m.fs i).pos ≤ 1048576
structure RLay where
  p : Nat
  vl : Value
  vg : Value
  o : Nat
  fb : Nat → Nat
def RLay.fv (L : RLay) (i : Nat) (f : RFl) : Value := if f.op = true then .slice (some ⟨L.fb i, 0, none⟩) 6 6 else .slice none 0 0
def RLay.fcell (L : RLay) (i : Nat) (f : RFl) : Nat → Value
  | 0 => .bool f.op
  | 1 => .int .i64 f.bk
  | 2 => .int .i64 f.pos
  | 3 => .int .i64 f.mood
  | _ => L.fv i f
def flc (f : RFl) : Array Value := #[.bool (f.fl 0), .bool (f.fl 1), .bool (f.fl 2), .bool (f.fl 3), .bool (f.fl 4), .bool (f.fl 5)]
def ABk.cl (b : ABk) : List Value := [.string b.name, .string b.text, .bool b.write]
structure RAt (κ : Nat → Tag) (L : RLay) (w : World) (m : RW) : Prop where
  ok : m.ok
  tp : κ L.p = .wd
  hp : w.heap[L.p]? = some (.cells #[L.vl, L.vg, .slice (some ⟨L.o, 0, none⟩) 20 20] 73 (0, 0))
  rl : w.ownsRow 0 26 3 L.vl m.list.length (m.list.flatMap ABk.cl)
  tl : ∀ g, L.vl.ownBlock = some g → κ g = .rb
  rg : w.ownsRow 0 4 1 L.vg m.gone.length (m.gone.map .bool)
  tg : ∀ g, L.vg.ownBlock = some g → κ g = .bk 0
  tk : κ L.o = .rf
  ho : ∀ i, i < 20 → ∀ j, j < 5 → w.cell? ⟨L.o, i * 5 + j, none⟩ = some (L.fcell i (m.fs i) j)
  hz : ∃ cur, w.heap[L.o]? = some (.cells cur 76 (0, 0))
  tf : ∀ i, i < 20 → (m.fs i).op = true → κ (L.fb i) = .fl i
  hf : ∀ i, i < 20 → (m.fs i).op = true → w.heap[L.fb i]? = some (.cells (flc (m.fs i)) 4 (0, 0))
  top : ∀ k, w.heap.size ≤ k → κ k = .no
theorem flat_get {α : Type} {f : α → List Value} {n : Nat} (hf : ∀ a, (f a).length = n) : ∀ (l : List α) (i : Nat) (hi : i < l.length) (j : Nat), j < n → (l.flatMap f)[i * n + j]? = (f (l[i]'hi))[j]?
  | [], i, hi, _, _ => absurd hi (Nat.not_lt_zero _)
  | a :: r, 0, _, j, hj => by
    rw [List.flatMap_cons, Nat.zero_mul, Nat.zero_add, List.getElem?_append_left (by rw [hf]; exact hj)]; rfl
  | a :: r, i + 1, hi, j, hj => by
    rw [List.flatMap_cons, List.getElem?_append_right (by rw [hf, Nat.add_mul]; omega), hf]
    have := flat_get hf r i (by simpa using hi) j hj
    rw [show (i + 1) * n + j - n = i * n + j from by rw [Nat.add_mul]; omega]
    exact this
theorem RAt.keep {κ κ' : Nat → Tag} {L : RLay} {w w' : World} {m : RW} (h : RAt κ L w m) (hk : ∀ k, κ k ≠ .no → κ' k = κ k) (hb : ∀ k, κ k ≠ .no → w'.heap[k]? = w.heap[k]?) (ht : ∀ k, w'.heap.size ≤ k → κ' k = .no) : RAt κ' L w' m where
  ok := h.ok
  tp := (hk _ (by rw [h.tp]; exact Tag.noConfusion)).trans h.tp
  hp := (hb _ (by rw [h.tp]; exact Tag.noConfusion)).trans h.hp
  rl := ownsRow_of_block h.rl fun g hg => hb g (by rw [h.tl g hg]; exact Tag.noConfusion)
  tl := fun g hg => (hk g (by rw [h.tl g hg]; exact Tag.noConfusion)).trans (h.tl g hg)
  rg := ownsRow_of_block h.rg fun g hg => hb g (by rw [h.tg g hg]; exact Tag.noConfusion)
  tg := fun g hg => (hk g (by rw [h.tg g hg]; exact Tag.noConfusion)).trans (h.tg g hg)
  tk := (hk _ (by rw [h.tk]; exact Tag.noConfusion)).trans h.tk
  ho := fun i hi j hj => (World.cell?_of_block (hb _ (by show κ L.o ≠ .no; rw [h.tk]; exact Tag.noConfusion))).trans (h.ho i hi j hj)
  hz := (hb _ (by rw [h.tk]; exact Tag.noConfusion)).symm ▸ h.hz
  tf := fun i hi ho => (hk _ (by rw [h.tf i hi ho]; exact Tag.noConfusion)).trans (h.tf i hi ho)
  hf := fun i hi ho => (hb _ (by rw [h.tf i hi ho]; exact Tag.noConfusion)).trans (h.hf i hi ho)
  top := ht
theorem RAt.lt {κ : Nat → Tag} {L : RLay} {w : World} {m : RW} (h : RAt κ L w m) {k : Nat} (hk : κ k ≠ .no) : k < w.heap.size := by
  rcases Nat.lt_or_ge k w.heap.size with h1 | h1
  · exact h1
  · exact absurd (h.top k h1) hk
theorem RAt.below {κ : Nat → Tag} {L : RLay} {w w' : World} {m : RW} (h : RAt κ L w m) (hb : Below w.heap.size w w') : RAt κ L w' m :=
  h.keep (fun _ _ => rfl) (fun k hk => hb.block k (h.lt hk)) (fun k hk => h.top k (Nat.le_trans hb.size hk))
/-- another world beside it -/
theorem RAt.beside {κ κ1 κ2 : Nat → Tag} {L : RLay} {w w' : World} {m : RW} (h : RAt κ L w m) (hn : Nx κ1 w κ2 w') (hd : ∀ k, κ k = .no ∨ κ1 k = .no) : RAt κ L w' m :=
  h.keep (fun _ _ => rfl) (fun k hk => hn.block k (h.lt hk) ((hd k).resolve_left hk)) (fun k hk => h.top k (Nat.le_trans hn.size hk))
def RSt (κ0 : Nat → Tag) (w0 : World) (κ : Nat → Tag) (L : RLay) (w : World) (m : RW) : Prop := RAt κ L w m ∧ Nx κ0 w0 κ w
theorem RSt.below {κ0 κ : Nat → Tag} {L : RLay} {w0 w w' : World} {m : RW} (h : RSt κ0 w0 κ L w m) (hb : Below w.heap.size w w') : RSt κ0 w0 κ L w' m := ⟨h.1.below hb, h.2.trans (Below.nx κ hb)⟩
theorem RSt.then {κ0 κ κ' : Nat → Tag} {L L' : RLay} {w0 w w' : World} {m m' : RW} (h : RSt κ0 w0 κ L w m) (hn : RSt κ w κ' L' w' m') : RSt κ0 w0 κ' L' w' m' := ⟨hn.1, h.2.trans hn.2⟩
theorem RAt.st {κ : Nat → Tag} {L : RLay} {w : World} {m : RW} (h : RAt κ L w m) : RSt κ w κ L w m := ⟨h, Nx.refl _ _⟩
theorem RAt.head {κ : Nat → Tag} {L : RLay} {w : World} {m : RW} (h : RAt κ L w m) : (w.cell? ⟨L.p, 0, none⟩ = some L.vl ∧ w.cell? ⟨L.p, 1, none⟩ = some L.vg ∧ w.cell? ⟨L.p, 2, none⟩ = some (.slice (some ⟨L.o, 0, none⟩) 20 20)) ∧ w.frozen? ⟨L.p, 0, none⟩ = false ∧ w.frozen? ⟨L.p, 1, none⟩ = false ∧ w.frozen? ⟨L.p, 2, none⟩ = false :=
  ⟨⟨(blk_cell h.hp 0).trans rfl, (blk_cell h.hp 1).trans rfl, (blk_cell h.hp 2).trans rfl⟩, blk_frozen h.hp 0, blk_frozen h.hp 1, blk_frozen h.hp 2⟩
/-- a file's five cells -/
theorem RAt.fc {κ : Nat → Tag} {L : RLay} {w : World} {m : RW} (h : RAt κ L w m) (i : Nat) (hi : i < 20) :
    w.cell? ⟨L.o, i * 5, none⟩ = some (.bool (m.fs i).op) ∧ w.cell? ⟨L.o, i * 5 + 1, none⟩ = some (.int .i64 (m.fs i).bk) ∧ w.cell? ⟨L.o, i * 5 + 2, none⟩ = some (.int .i64 (m.fs i).pos) ∧ w.cell? ⟨L.o, i * 5 + 3, none⟩ = some (.int .i64 (m.fs i).mood) ∧ w.cell? ⟨L.o, i * 5 + 4, none⟩ = some (L.fv i (m.fs i)) :=
  ⟨h.ho i hi 0 (by decide), h.ho i hi 1 (by decide), h.ho i hi 2 (by decide), h.ho i hi 3 (by decide), h.ho i hi 4 (by decide)⟩
theorem RAt.fz {κ : Nat → Tag} {L : RLay} {w : World} {m : RW} (h : RAt κ L w m) (k : Nat) : w.frozen? ⟨L.o, k, none⟩ = false := by
  obtain ⟨cur, hc⟩ := h.hz
  exact blk_frozen hc k
/-- a file's flag -/
theorem RAt.fg {κ : Nat → Tag} {L : RLay} {w : World} {m : RW} (h : RAt κ L w m) (i : Nat) (hi : i < 20) (ho : (m.fs i).op = true) (ev : Nat) (he : ev < 6) :
    w.cell? ⟨L.o, i * 5 + 4, none⟩ = some (.slice (some ⟨L.fb i, 0, none⟩) 6 6) ∧ w.cell? ⟨L.fb i, ev, none⟩ = some (.bool ((m.fs i).fl ev)) ∧ w.frozen? ⟨L.fb i, ev, none⟩ = false := by
  refine ⟨(h.fc i hi).2.2.2.2.trans (by rw [RLay.fv, if_pos ho]), ?_, blk_frozen (h.hf i hi ho) _⟩
  have : ev = 0 ∨ ev = 1 ∨ ev = 2 ∨ ev = 3 ∨ ev = 4 ∨ ev = 5 := by omega
  rcases this with rfl | rfl | rfl | rfl | rfl | rfl <;> exact (blk_cell (h.hf i hi ho) _).trans rfl
/-- a book's cells -/
theorem RAt.bc {κ : Nat → Tag} {L : RLay} {w : World} {m : RW} (h : RAt κ L w m) : ∃ a cap, L.vl = .slice a m.list.length cap ∧ m.list.length ≤ cap ∧ cap ≤ maxLen ∧ ∀ i (hi : i < m.list.length), ∃ g, a = some ⟨g, 0, none⟩ ∧ κ g = .rb ∧ w.cell? ⟨g, i * 3, none⟩ = some (.string (m.list[i]'hi).name) ∧ w.cell? ⟨g, i * 3 + 1, none⟩ = some (.string (m.list[i]'hi).text) ∧ w.cell? ⟨g, i * 3 + 2, none⟩ = some (.bool (m.list[i]'hi).write) ∧ ∀ j, w.frozen? ⟨g, j, none⟩ = false := by
  have hr := h.rl
  rcases h.rl.2 with ⟨h1, h2⟩ | ⟨g, cap, cur, h1, _, _, hc, hm, _⟩
  · exact ⟨none, 0, by rw [h1, h2], by rw [h2]; exact Nat.le_refl _, Nat.zero_le _, fun i hi => by rw [h2] at hi; exact absurd hi (Nat.not_lt_zero _)⟩
  · refine ⟨_, cap, h1, hc, hm, fun i hi => ⟨g, rfl, h.tl g (by rw [h1]; rfl), ?_, ?_, ?_, ?_⟩⟩
    all_goals rw [h1] at hr
    · rw [hr.cellAt _ (by omega)]; exact flat_get (f := ABk.cl) (n := 3) (fun _ => rfl) m.list i hi 0 (by decide)
    · rw [hr.cellAt _ (by omega)]; exact flat_get (f := ABk.cl) (n := 3) (fun _ => rfl) m.list i hi 1 (by decide)
    · rw [hr.cellAt _ (by omega)]; exact flat_get (f := ABk.cl) (n := 3) (fun _ => rfl) m.list i hi 2 (by decide)
    · exact hr.frozenAt
/-- a gone flag's cell -/
theorem RAt.gc {κ : Nat → Tag} {L : RLay} {w : World} {m : RW} (h : RAt κ L w m) : ∃ a cap, L.vg = .slice a m.gone.length cap ∧ m.gone.length ≤ cap ∧ cap ≤ maxLen ∧ ∀ i (hi : i < m.gone.length), ∃ g, a = some ⟨g, 0, none⟩ ∧ κ g = .bk 0 ∧ w.cell? ⟨g, i, none⟩ = some (.bool (m.gone[i]'hi)) ∧ w.frozen? ⟨g, i, none⟩ = false := by
  have hr := h.rg
  rcases h.rg.2 with ⟨h1, h2⟩ | ⟨g, cap, cur, h1, _, _, hc, hm, _⟩
  · exact ⟨none, 0, by rw [h1, h2], by rw [h2]; exact Nat.le_refl _, Nat.zero_le _, fun i hi => by rw [h2] at hi; exact absurd hi (Nat.not_lt_zero _)⟩
  · refine ⟨_, cap, h1, hc, hm, fun i hi => ⟨g, rfl, h.tg g (by rw [h1]; rfl), ?_, ?_⟩⟩
    all_goals rw [h1] at hr
    · rw [hr.cellAt _ (by omega), List.getElem?_map, List.getElem?_eq_getElem hi]; rfl
    · exact hr.frozenAt _
/-- a text of an open file -/
def RW.text (m : RW) (i : Nat) : ByteArray := (m.list.getD (m.fs i).bk ⟨⟨#[]⟩, ⟨#[]⟩, false⟩).text
theorem RW.text_at {m : RW} {i : Nat} (h : (m.fs i).bk < m.list.length) : m.text i = (m.list[(m.fs i).bk]'h).text := by
  unfold RW.text
  rw [List.getD_eq_getElem?_getD, List.getElem?_eq_getElem h]; rfl
def RW.st (m : RW) (n : Int) : Nat := if 1 ≤ n ∧ n ≤ 20 ∧ (m.fs (n - 1).toNat).op = true then 0 else 29
theorem RW.st_open {m : RW} {n : Int} (h : m.st n = 0) : ∃ k : Nat, k < 20 ∧ n = (k : Int) + 1 ∧ (m.fs k).op = true := by
  unfold RW.st at h
  split at h
  · next h1 => exact ⟨(n - 1).toNat, by omega, by omega, h1.2.2⟩
  · omega
theorem RW.st_at {m : RW} {k : Nat} (hk : k < 20) : m.st ((k : Int) + 1) = if (m.fs k).op = true then 0 else 29 := by
  unfold RW.st
  rw [show ((k : Int) + 1 - 1).toNat = k by omega]
  by_cases h : (m.fs k).op = true
  · rw [if_pos ⟨by omega, by omega, h⟩, if_pos h]
  · rw [if_neg (fun q => h q.2.2), if_neg h]
/-- the state of a file -/
theorem r_state {κ : Nat → Tag} {L : RLay} {m : RW} (n : Int) (w : World) (h : RAt κ L w m) (R : Nat) (hR : m.st n = R) :
    Calls Try.prog 60 #[pt L.p, .int .i64 n] w fun e w' => e = .returned (.int .i64 R) ∧ w = w' := by
  obtain ⟨⟨z0, z1, z2⟩, _⟩ := h.head
  unfold pt
  by_cases h1 : n < 1
  · obtain rfl : 29 = R := by rw [← hR]; unfold RW.st; rw [if_neg (by omega)]
    go_enter Try.func60, Try.ntmps60
    go_wp2
    go_ret
    exact ⟨rfl, rfl⟩
  · by_cases h2 : 20 < n
    · obtain rfl : 29 = R := by rw [← hR]; unfold RW.st; rw [if_neg (by omega)]
      go_enter Try.func60, Try.ntmps60
      go_wp2
      go_ret
      exact ⟨rfl, rfl⟩
    · obtain ⟨k, rfl⟩ : ∃ k : Nat, n = (k : Int) + 1 := ⟨(n - 1).toNat, by omega⟩
      have hk : k < 20 := by omega
      have z3 := (h.fc k hk).1
      rw [RW.st_at hk] at hR
      clear h
      cases hop : (m.fs k).op with
      | true =>
        rw [hop] at z3 hR
        obtain rfl : 0 = R := by simpa using hR
        clear hR hop
        go_enter Try.func60, Try.ntmps60
        go_wp2
        go_ret
        exact ⟨rfl, rfl⟩
      | false =>
        rw [hop] at z3 hR
        obtain rfl : 29 = R := by simpa using hR
        clear hR hop
        go_enter Try.func60, Try.ntmps60
        go_wp2
        go_ret
        exact ⟨rfl, rfl⟩
theorem r_text {κ : Nat → Tag} {L : RLay} {m : RW} (k : Nat) (w : World) (h : RAt κ L w m) (hk : k < 20) (ho : (m.fs k).op = true) :
    Calls Try.prog 61 #[pt L.p, .int .i64 ((k : Int) + 1)] w fun e w' => e = .returned (.string (m.text k)) ∧ Rd w w' := by
  obtain ⟨⟨z0, z1, z2⟩, _⟩ := h.head
  obtain ⟨a, cap, hv, hc1, hc2, hc⟩ := h.bc
  have hlt := h.ok.bk k hk ho
  obtain ⟨g, rfl, _, _, z4, _, _⟩ := hc _ hlt
  have z3 := (h.fc k hk).2.1
  rw [hv] at z0
  rw [RW.text_at hlt]
  clear h hc
  generalize m.list[(m.fs k).bk] = b at *
  generalize (m.fs k).bk = i at *
  unfold pt
  go_enter Try.func61, Try.ntmps61
  go_wp2
  go_region
  go_wp2
  all_goals (go_ret; exact ⟨rfl, Rd.drew _⟩)
theorem r_event {κ : Nat → Tag} {L : RLay} {m : RW} (n ev evs : Int) (w : World) (h : RAt κ L w m) (R : Nat) (hR : (if m.st n = 0 then (if ev < 0 ∨ evs ≤ ev then 1 else 0) else m.st n) = R) :
    Calls Try.prog 64 #[pt L.p, .int .i64 n, .int .i64 ev, .int .i64 evs] w fun e w' => e = .returned (.int .i64 R) ∧ w = w' := by
  have HS := Aside0.mk (r_state n w h _ rfl)
  clear h
  unfold pt at *
  obtain ⟨s, hs⟩ : ∃ s, m.st n = s := ⟨_, rfl⟩
  rw [hs] at hR HS
  by_cases h0 : s = 0
  · subst h0
    rw [if_pos rfl] at hR
    by_cases h1 : ev < 0
    · rw [if_pos (.inl h1)] at hR
      subst hR
      go_enter Try.func64, Try.ntmps64
      go_wp2_with (go_at_call 60; refine HS.out.mono ?_; rintro e w' ⟨rfl, rfl⟩)
      go_ret
      exact ⟨rfl, rfl⟩
    · by_cases h2 : evs ≤ ev
      · rw [if_pos (.inr h2)] at hR
        subst hR
        go_enter Try.func64, Try.ntmps64
        go_wp2_with (go_at_call 60; refine HS.out.mono ?_; rintro e w' ⟨rfl, rfl⟩)
        go_ret
        exact ⟨rfl, rfl⟩
      · rw [if_neg (by omega)] at hR
        subst hR
        go_enter Try.func64, Try.ntmps64
        go_wp2_with (go_at_call 60; refine HS.out.mono ?_; rintro e w' ⟨rfl, rfl⟩)
        go_ret
        exact ⟨rfl, rfl⟩
  · rw [if_neg h0] at hR
    subst hR
    have hs0 : ¬ (s : Int) = 0 := by omega
    go_enter Try.func64, Try.ntmps64
    go_wp2_with (go_at_call 60; refine HS.out.mono ?_; rintro e w' ⟨rfl, rfl⟩)
    go_ret
    exact ⟨rfl, rfl⟩
def RW.ev (m : RW) (n ev evs : Int) : Nat := if m.st n = 0 then (if ev < 0 ∨ evs ≤ ev then 1 else 0) else m.st n
theorem RW.ev_ok {m : RW} {n ev evs : Int} (h : m.ev n ev evs = 0) : m.st n = 0 ∧ 0 ≤ ev ∧ ev < evs := by
  unfold RW.ev at h
  split at h
  · next h1 =>
    split at h
    · omega
    · next h2 => exact ⟨h1, by omega⟩
  · contradiction
def RW.flag (m : RW) (n ev : Int) : Bool × Nat := if m.ev n ev 6 = 0 then ((m.fs (n - 1).toNat).fl ev.toNat, 0) else (false, m.ev n ev 6)
theorem r_flag {κ : Nat → Tag} {L : RLay} {m : RW} (n ev : Int) (w : World) (h : RAt κ L w m) (b : Bool) (E : Nat) (hR : m.flag n ev = (b, E)) :
    Calls Try.prog 38 #[pt L.p, .int .i64 n, .int .i64 ev] w fun e w' => e = .returned (.tuple #[.bool b, .int .i64 E]) ∧ w = w' := by
  have HE := Aside0.mk (r_event n ev 6 w h (m.ev n ev 6) rfl)
  obtain ⟨⟨z0, z1, z2⟩, _⟩ := h.head
  unfold pt at *
  unfold RW.flag at hR
  by_cases h0 : m.ev n ev 6 = 0
  · rw [if_pos h0] at hR
    rw [h0] at HE
    obtain ⟨hst, he0, he6⟩ := RW.ev_ok h0
    obtain ⟨k, hk, rfl, ho⟩ := RW.st_open hst
    obtain ⟨j, rfl⟩ : ∃ j : Nat, ev = (j : Int) := ⟨ev.toNat, by omega⟩
    rw [show ((k : Int) + 1 - 1).toNat = k by omega, Int.toNat_natCast] at hR
    obtain ⟨z3, z4, _⟩ := h.fg k hk ho j (by omega)
    have hj : j < 6 := by omega
    obtain ⟨rfl, rfl⟩ := Prod.mk.inj hR
    clear h hst hR h0 ho
    generalize (m.fs k).fl j = b at *
    go_enter Try.func38, Try.ntmps38
    go_wp2_with (go_at_call 64; refine HE.out.mono ?_; rintro e w' ⟨rfl, rfl⟩)
    go_ret2
    exact ⟨rfl, rfl⟩
  · rw [if_neg h0] at hR
    obtain ⟨rfl, rfl⟩ := Prod.mk.inj hR
    clear h hR
    generalize m.ev n ev 6 = E at *
    have hs0 : ¬ (E : Int) = 0 := by omega
    go_enter Try.func38, Try.ntmps38
    go_wp2_with (go_at_call 64; refine HE.out.mono ?_; rintro e w' ⟨rfl, rfl⟩)
    go_ret2
    exact ⟨rfl, rfl⟩
theorem take_byte (x : ByteArray) (j : Nat) (h : j < x.size) : x.data.toList.take (j + 1) = x.data.toList.take j ++ [x[j]] := by
  have h1 : j < x.data.toList.length := by simpa using h
  rw [List.take_succ_eq_append_getElem h1]
  rfl
theorem getD_byte (x : ByteArray) (j : Nat) (h : j < x.size) : x.data.toList.getD j 0 = x[j] := by
  have h1 : j < x.data.toList.length := by simpa using h
  rw [List.getD_eq_getElem?_getD, List.getElem?_eq_getElem h1]
  rfl
/-! ### the reference's small functions -/
theorem r_end (d : Nat) (w : World) (r : Bool) (hr : decide (d = 10 ∨ d = 12) = r) : Calls Try.prog 59 #[.int .u8 d] w fun e w' => e = .returned (.bool r) ∧ w = w' := by
  subst hr
  by_cases h1 : d = 10
  · subst h1
    go_enter Try.func59, Try.ntmps59
    go_wp2
    go_ret
    exact ⟨rfl, rfl⟩
  · by_cases h2 : d = 12
    · subst h2
      go_enter Try.func59, Try.ntmps59
      go_wp2
      go_ret
      exact ⟨rfl, rfl⟩
    · rw [decide_eq_false (by omega)]
      have b10 : ((d : Int) == 10) = false := beq_eq_false_iff_ne.2 (by omega)
      have b12 : ((d : Int) == 12) = false := beq_eq_false_iff_ne.2 (by omega)
      go_enter Try.func59, Try.ntmps59
      go_wp2
      go_ret
      exact ⟨rfl, rfl⟩
theorem r_character (d : Nat) (w : World) (r : Bool) (hr : decide (d = 10 ∨ d = 12 ∨ (32 ≤ d ∧ d ≤ 126)) = r) : Calls Try.prog 58 #[.int .u8 d] w fun e w' => e = .returned (.bool r) ∧ w = w' := by
  subst hr
  by_cases h1 : d = 10
  · subst h1
    go_enter Try.func58, Try.ntmps58
    go_wp2
    go_ret
    exact ⟨rfl, rfl⟩
  · by_cases h2 : d = 12
    · subst h2
      go_enter Try.func58, Try.ntmps58
      go_wp2
      go_ret
      exact ⟨rfl, rfl⟩
    · have b10 : ((d : Int) == 10) = false := beq_eq_false_iff_ne.2 (by omega)
      have b12 : ((d : Int) == 12) = false := beq_eq_false_iff_ne.2 (by omega)
      by_cases h3 : 32 ≤ d
      · have h3' : (32 : Int) ≤ d := by omega
        by_cases h4 : d ≤ 126
        · have h4' : (d : Int) ≤ 126 := by omega
          rw [decide_eq_true (by omega)]
          go_enter Try.func58, Try.ntmps58
          go_wp2
          go_ret
          exact ⟨rfl, rfl⟩
        · have h4' : ¬ (d : Int) ≤ 126 := by omega
          rw [decide_eq_false (by omega)]
          go_enter Try.func58, Try.ntmps58
          go_wp2
          go_ret
          exact ⟨rfl, rfl⟩
      · have h3' : ¬ (32 : Int) ≤ d := by omega
        rw [decide_eq_false (by omega)]
        go_enter Try.func58, Try.ntmps58
        go_wp2
        go_ret
        exact ⟨rfl, rfl⟩
theorem r_name (s : ByteArray) (w : World) (hs : s.size ≤ 9223372036854775807) (r : Bool) (hr : namedB s = r) : Calls Try.prog 57 #[.string s] w fun e w' => e = .returned (.bool r) ∧ w = w' := by
  have HR := Aside0.mk hr
  clear hr
  go_enter Try.func57, Try.ntmps57
  go_wp2
  go_loop [3] (fun i => ∃ k : Nat, k ≤ s.size ∧ i = .int .i64 k ∧ Aside0 (∀ c ∈ s.data.toList.take k, 33 ≤ c.toNat ∧ c.toNat ≤ 126)) (fun i => s.size - (intOf i).toNat)
  case atStart => exact ⟨0, Nat.zero_le _, rfl, ⟨by simp⟩⟩
  case round =>
    obtain ⟨k, hk, rfl, HK⟩ := hrel
    by_cases hlt : k < s.size
    · have hsn := take_byte s k hlt
      have HSN := Aside0.mk hsn
      have hm : s[k] ∈ s.data.toList := by
        rw [← getD_byte s k hlt, List.getD_eq_getElem?_getD, List.getElem?_eq_getElem (by simpa using hlt)]; exact List.getElem_mem _
      have HF : Aside0 (¬ (33 ≤ s[k].toNat ∧ s[k].toNat ≤ 126) → false = r) := ⟨fun h => by
        rw [← HR.out]; unfold namedB
        rw [Eq.comm, Bool.and_eq_false_iff, Bool.and_eq_false_iff]
        exact .inl (.inl (List.all_eq_false.2 ⟨_, hm, by simpa using h⟩))⟩
      clear hsn hm
      by_cases h1 : s[k].toNat < 33
      · have h1' : (s[k].toNat : Int) < 33 := by omega
        obtain rfl := HF.out (by omega)
        go_wp2
        go_ret
        exact ⟨rfl, rfl⟩
      · have h1' : ¬ (s[k].toNat : Int) < 33 := by omega
        by_cases h2 : 126 < s[k].toNat
        · have h2' : (126 : Int) < s[k].toNat := by omega
          obtain rfl := HF.out (by omega)
          go_wp2
          go_ret
          exact ⟨rfl, rfl⟩
        · have h2' : ¬ (126 : Int) < s[k].toNat := by omega
          have HX : Aside0 (∀ c ∈ s.data.toList.take (k + 1), 33 ≤ c.toNat ∧ c.toNat ≤ 126) := ⟨by
            rw [HSN.out]; intro c hc
            rcases List.mem_append.1 hc with hc | hc
            · exact HK.out c hc
            · obtain rfl := List.mem_singleton.1 hc; omega⟩
          go_wp2
          go_round
          case rel => exact ⟨k + 1, by omega, by go_num, HX⟩
          case measure => simp [intOf]; omega
    · obtain rfl : k = s.size := by omega
      have hall : s.data.toList.all (fun c => decide (33 ≤ c.toNat ∧ c.toNat ≤ 126)) = true := by
        rw [List.all_eq_true]; intro c hc
        have := HK.out
        rw [List.take_of_length_le (by simp)] at this
        simpa using this c hc
      have hr := HR.out
      unfold namedB at hr
      rw [hall, Bool.true_and] at hr
      clear hall
      by_cases h1 : 1 ≤ s.size
      · have h1' : (1 : Int) ≤ s.size := by omega
        by_cases h2 : s.size ≤ 40
        · have h2' : (s.size : Int) ≤ 40 := by omega
          obtain rfl : true = r := by rw [← hr, decide_eq_true (show s.size ≠ 0 by omega), decide_eq_true h2]; rfl
          clear hr
          go_wp2
          go_ret
          exact ⟨rfl, rfl⟩
        · have h2' : ¬ (s.size : Int) ≤ 40 := by omega
          obtain rfl : false = r := by rw [← hr, decide_eq_false h2, Bool.and_false]
          clear hr
          go_wp2
          go_ret
          exact ⟨rfl, rfl⟩
      · have h1' : ¬ (1 : Int) ≤ s.size := by omega
        obtain rfl : false = r := by rw [← hr, decide_eq_false (show ¬ s.size ≠ 0 by omega)]; rfl
        clear hr
        go_wp2
        go_ret
        exact ⟨rfl, rfl⟩
theorem r_place (p : Nat) (s : ByteArray) (w : World) : Calls Try.prog 63 #[.int .i64 p, .string s] w fun e w' => e = .returned (.int .i64 (min p s.size : Nat)) ∧ w = w' := by
  by_cases h : s.size < p
  · have h' : (s.size : Int) < p := by omega
    rw [Nat.min_eq_right (by omega)]
    go_enter Try.func63, Try.ntmps63
    go_wp2
    go_ret
    exact ⟨rfl, rfl⟩
  · have h' : ¬ (s.size : Int) < p := by omega
    rw [Nat.min_eq_left (by omega)]
    go_enter Try.func63, Try.ntmps63
    go_wp2
    go_ret
    exact ⟨rfl, rfl⟩
/-- page, line, character behind a text -/
def posC : List UInt8 → Nat × Nat × Nat → Nat × Nat × Nat
  | [], x => x
  | c :: r, (p, l, k) => posC r (if c.toNat = 12 then (p + 1, 1, 1) else if c.toNat = 10 then (p, l + 1, 1) else (p, l, k + 1))
theorem posC_snoc (t : List UInt8) (c : UInt8) (x : Nat × Nat × Nat) : posC (t ++ [c]) x = (if c.toNat = 12 then ((posC t x).1 + 1, 1, 1) else if c.toNat = 10 then ((posC t x).1, (posC t x).2.1 + 1, 1) else ((posC t x).1, (posC t x).2.1, (posC t x).2.2 + 1)) := by
  induction t generalizing x with
  | nil => obtain ⟨p, l, k⟩ := x; simp only [List.nil_append, posC]
  | cons d r ih => obtain ⟨p, l, k⟩ := x; simp only [List.cons_append, posC]; exact ih _
theorem posC_le (t : List UInt8) (x : Nat × Nat × Nat) : (posC t x).1 ≤ x.1 + t.length ∧ (posC t x).2.1 ≤ max x.2.1 1 + t.length ∧ (posC t x).2.2 ≤ max x.2.2 1 + t.length := by
  induction t generalizing x with
  | nil => simp only [posC, List.length_nil]; omega
  | cons d r ih =>
    obtain ⟨p, l, k⟩ := x
    simp only [posC, List.length_cons]
    split
    · have := ih (p + 1, 1, 1); simp only at this ⊢; omega
    · split
      · have := ih (p, l + 1, 1); simp only at this ⊢; omega
      · have := ih (p, l, k + 1); simp only at this ⊢; omega
theorem r_position (s : ByteArray) (n : Nat) (w : World) (hn : n ≤ s.size) (hs : s.size ≤ 1048576) : Calls Try.prog 62 #[.string s, .int .i64 n] w fun e w' => e = .returned (.tuple #[.int .i64 (posC (s.data.toList.take n) (1, 1, 1)).1, .int .i64 (posC (s.data.toList.take n) (1, 1, 1)).2.1, .int .i64 (posC (s.data.toList.take n) (1, 1, 1)).2.2]) ∧ w = w' := by
  go_enter Try.func62, Try.ntmps62
  go_wp2
  go_loop [7, 8, 9, 10] (fun p l c i => ∃ k : Nat, k ≤ n ∧ i = .int .i64 k ∧ p = .int .i64 (posC (s.data.toList.take k) (1, 1, 1)).1 ∧ l = .int .i64 (posC (s.data.toList.take k) (1, 1, 1)).2.1 ∧ c = .int .i64 (posC (s.data.toList.take k) (1, 1, 1)).2.2) (fun _ _ _ i => n - (intOf i).toNat)
  case atStart => exact ⟨0, Nat.zero_le _, rfl, rfl, rfl, rfl⟩
  case round =>
    obtain ⟨k, hk, rfl, rfl, rfl, rfl⟩ := hrel
    by_cases hlt : k < n
    · have hl2 : k < s.size := by omega
      have hle := posC_le (s.data.toList.take k) (1, 1, 1)
      have htl : (s.data.toList.take k).length = k := by rw [List.length_take]; simp; omega
      have hsn := posC_snoc (s.data.toList.take k) s[k] (1, 1, 1)
      rw [← take_byte s k hl2] at hsn
      rw [htl] at hle
      have HSN := Aside0.mk hsn
      clear hsn htl
      generalize posC (s.data.toList.take k) (1, 1, 1) = x at *
      obtain ⟨x1, x2, x3⟩ := x
      simp only at hle
      obtain ⟨hl1, hl3, hl4⟩ := hle
      by_cases h12 : s[k].toNat = 12
      · have h12' : (s[k].toNat : Int) = 12 := by omega
        have hp : posC (s.data.toList.take (k + 1)) (1, 1, 1) = (x1 + 1, 1, 1) := by rw [HSN.out, if_pos h12]
        have HP := Aside0.mk hp
        clear h12 hp
        go_wp2
        go_round
        case rel => exact ⟨k + 1, by omega, by go_num, by rw [HP.out]; go_num, by rw [HP.out]; rfl, by rw [HP.out]; rfl⟩
        case measure => simp [intOf]; omega
      · have b12 : ((s[k].toNat : Int) == 12) = false := beq_eq_false_iff_ne.2 (by omega)
        by_cases h10 : s[k].toNat = 10
        · have h10' : (s[k].toNat : Int) = 10 := by omega
          have hp : posC (s.data.toList.take (k + 1)) (1, 1, 1) = (x1, x2 + 1, 1) := by rw [HSN.out, if_neg h12, if_pos h10]
          have HP := Aside0.mk hp
          clear h12 h10 hp
          go_wp2
          go_round
          case rel => exact ⟨k + 1, by omega, by go_num, by rw [HP.out], by rw [HP.out]; go_num, by rw [HP.out]; rfl⟩
          case measure => simp [intOf]; omega
        · have b10 : ((s[k].toNat : Int) == 10) = false := beq_eq_false_iff_ne.2 (by omega)
          have hp : posC (s.data.toList.take (k + 1)) (1, 1, 1) = (x1, x2, x3 + 1) := by rw [HSN.out, if_neg h12, if_neg h10]
          have HP := Aside0.mk hp
          clear h12 h10 hp
          go_wp2
          go_round
          case rel => exact ⟨k + 1, by omega, by go_num, by rw [HP.out], by rw [HP.out], by rw [HP.out]; go_num⟩
          case measure => simp [intOf]; omega
    · obtain rfl : k = n := by omega
      go_wp2
      refine bodyPost_ret (v := .tuple #[.int .i64 (posC (s.data.toList.take k) (1, 1, 1)).1, .int .i64 (posC (s.data.toList.take k) (1, 1, 1)).2.1, .int .i64 (posC (s.data.toList.take k) (1, 1, 1)).2.2]) (by simp [results, Try.results62, go_sem]) rfl ⟨rfl, rfl⟩
/-- the index of a book of the reference, from an index on -/
def rfind (s : ByteArray) : List ABk → List Bool → Nat → Option Nat
  | b :: l, g :: r, i => if g = false ∧ b.name = s then some i else rfind s l r (i + 1)
  | _, _, _ => none
def RW.find (m : RW) (s : ByteArray) : Option Nat := rfind s m.list m.gone 0
theorem rfind_some {s : ByteArray} : ∀ {l : List ABk} {r : List Bool} {i k : Nat}, rfind s l r i = some k → ∃ (j : Nat) (hl : j < l.length) (hr : j < r.length), k = i + j ∧ r[j] = false ∧ (l[j]).name = s
  | [], _, _, _, h => by simp [rfind] at h
  | _ :: _, [], _, _, h => by simp [rfind] at h
  | b :: l, g :: r, i, k, h => by
    unfold rfind at h
    split at h
    · next h1 =>
      obtain rfl := Option.some.inj h
      exact ⟨0, Nat.zero_lt_succ _, Nat.zero_lt_succ _, rfl, h1.1, h1.2⟩
    · obtain ⟨j, hl, hr, rfl, h2, h3⟩ := rfind_some h
      exact ⟨j + 1, Nat.succ_lt_succ hl, Nat.succ_lt_succ hr, by omega, h2, h3⟩
theorem rfind_at {s : ByteArray} {l : List ABk} {r : List Bool} (i : Nat) {k : Nat} (hl : k < l.length) (hr : k < r.length) (h : r[k] = false ∧ (l[k]).name = s) (hn : ∀ j (hj : j < l.length) (hj' : j < r.length), j < k → ¬ (r[j] = false ∧ (l[j]).name = s)) : rfind s l r i = some (i + k) := by
  induction l generalizing r i k with
  | nil => exact absurd hl (Nat.not_lt_zero _)
  | cons b l ih =>
    cases r with
    | nil => exact absurd hr (Nat.not_lt_zero _)
    | cons g r =>
      cases k with
      | zero => unfold rfind; rw [if_pos (show g = false ∧ b.name = s from h)]; rfl
      | succ k =>
        unfold rfind
        rw [if_neg (show ¬ (g = false ∧ b.name = s) from hn 0 (Nat.zero_lt_succ _) (Nat.zero_lt_succ _) (Nat.zero_lt_succ _)), ih (i + 1) (Nat.lt_of_succ_lt_succ hl) (Nat.lt_of_succ_lt_succ hr) h fun j hj hj' hjk => hn (j + 1) (Nat.succ_lt_succ hj) (Nat.succ_lt_succ hj') (Nat.succ_lt_succ hjk)]
        congr 1; omega
theorem rfind_no {s : ByteArray} {l : List ABk} {r : List Bool} (i : Nat) (hn : ∀ j (hj : j < l.length) (hj' : j < r.length), ¬ (r[j] = false ∧ (l[j]).name = s)) : rfind s l r i = none := by
  induction l generalizing r i with
  | nil => unfold rfind; rfl
  | cons b l ih =>
    cases r with
    | nil => unfold rfind; rfl
    | cons g r =>
      unfold rfind
      rw [if_neg (show ¬ (g = false ∧ b.name = s) from hn 0 (Nat.zero_lt_succ _) (Nat.zero_lt_succ _)), ih (i + 1) fun j hj hj' => hn (j + 1) (Nat.succ_lt_succ hj) (Nat.succ_lt_succ hj')]
def fidx : Option Nat → Int
  | some i => i
  | none => -1
theorem r_find {κ : Nat → Tag} {L : RLay} {m : RW} (s : ByteArray) (w : World) (h : RAt κ L w m) (r : Int) (hr : fidx (m.find s) = r) : Calls Try.prog 29 #[pt L.p, .string s] w fun e w' => e = .returned (.int .i64 r) ∧ w = w' := by
  obtain ⟨⟨z0, z1, z2⟩, _⟩ := h.head
  obtain ⟨a, cap, hv, hc1, hc2, hc⟩ := h.bc
  obtain ⟨a', cap', hv', hc1', hc2', hc'⟩ := h.gc
  have hlen := h.ok.ls
  have hgn := h.ok.gn
  have hcm : cap ≤ 9223372036854775807 := hc2
  have hcm' : cap' ≤ 9223372036854775807 := hc2'
  rw [hv] at z0
  rw [hv'] at z1
  have HC := Aside0.mk hc
  have HC' := Aside0.mk hc'
  have HR := Aside0.mk hr
  clear h hr hc hc' hv hv' hc2 hc2'
  unfold pt
  rw [hgn] at z1
  go_enter Try.func29, Try.ntmps29
  go_wp2
  go_loop [5] (fun i => ∃ k : Nat, k ≤ m.list.length ∧ i = .int .i64 k ∧ Aside0 (∀ j (hj : j < m.list.length) (hj' : j < m.gone.length), j < k → ¬ (m.gone[j] = false ∧ (m.list[j]).name = s))) (fun i => m.list.length - (intOf i).toNat)
  case atStart => exact ⟨0, Nat.zero_le _, rfl, ⟨fun j _ _ hj => absurd hj (Nat.not_lt_zero _)⟩⟩
  case round =>
    obtain ⟨k, hk, rfl, HN⟩ := hrel
    by_cases hlt : k < m.list.length
    · obtain ⟨g, rfl, _, x0, _⟩ := HC.out k hlt
      obtain ⟨g', rfl, _, y0, _⟩ := HC'.out k (by omega)
      have HS : Aside0 (¬ (m.gone[k] = false ∧ (m.list[k]).name = s) → ∀ j (hj : j < m.list.length) (hj' : j < m.gone.length), j < k + 1 → ¬ (m.gone[j] = false ∧ (m.list[j]).name = s)) := ⟨fun hn j hj hj' hjk => by
        rcases Nat.lt_or_ge j k with h1 | h1
        · exact HN.out j hj hj' h1
        · obtain rfl : j = k := by omega
          exact hn⟩
      have HT : Aside0 (m.gone[k] = false ∧ (m.list[k]).name = s → (k : Int) = r) := ⟨fun hh => by
        rw [← HR.out, RW.find, rfind_at 0 hlt (by omega) hh HN.out, Nat.zero_add]; rfl⟩
      have hb : ∃ b, m.list[k] = b := ⟨_, rfl⟩
      have hgg : ∃ b, m.gone[k] = b := ⟨_, rfl⟩
      obtain ⟨b, hb⟩ := hb
      obtain ⟨gg, hgg⟩ := hgg
      rw [hb] at x0 HS HT
      rw [hgg] at y0 HS HT
      clear hb hgg
      cases gg with
      | true =>
        go_wp2
        go_round
        case rel => exact ⟨k + 1, by omega, by go_num, ⟨HS.out (by simp)⟩⟩
        case measure => simp [intOf]; omega
      | false =>
        by_cases he : b.name = s
        · obtain rfl := HT.out ⟨rfl, he⟩
          go_wp2
          go_ret
          exact ⟨rfl, rfl⟩
        · have hse := str_ne he
          go_wp2
          go_round
          case rel => exact ⟨k + 1, by omega, by go_num, ⟨HS.out (fun q => he q.2)⟩⟩
          case measure => simp [intOf]; omega
    · obtain rfl : k = m.list.length := by omega
      obtain rfl : -1 = r := by
        rw [← HR.out, RW.find, rfind_no 0 fun j hj hj' => HN.out j hj hj' hj]; rfl
      go_wp2
      go_ret
      exact ⟨rfl, rfl⟩
/-- the reference's check of a book -/
theorem r_check (x : ABk) (bs : List ABk) (a : Option Addr) (cap : Nat) (w : World) (hn : x.name.size ≤ 9223372036854775807) (ht : x.text.size ≤ 9223372036854775807) (hlen : bs.length ≤ 100) (hA : AAt w a bs) (R : Nat) (hR : checkR x bs = R) :
    Calls Try.prog 28 #[.slice a bs.length cap, .agg #[.string x.name, .string x.text, .bool x.write]] w fun e w' => e = .returned (.int .i64 R) ∧ Below w.heap.size w w' := by
  have HX0 := Aside0.mk ((bxs_nil w).push x.cells 26)
  have HN := Aside0.mk (fun (w1 : World) => r_name x.name w1 hn _ rfl)
  have HA := Aside0.mk hA
  have HR := Aside0.mk hR
  clear hA hR hn
  unfold checkR at HR
  unfold ABk.cells at HX0
  go_enter Try.func28, Try.ntmps28
  go_wp2_with fail
  refine (HN.out _).mono ?_
  rintro e w1 ⟨rfl, rfl⟩
  have hb0 := HX0.out.b
  have HT := Aside0.mk ht
  clear ht
  have z0 : (w.alloc (.cells #[.string x.name, .string x.text, .bool x.write] 26)).cell? ⟨w.heap.size, 0, none⟩ = some (.string x.name) := (blk_cell HX0.out.get 0).trans rfl
  have z1 : (w.alloc (.cells #[.string x.name, .string x.text, .bool x.write] 26)).cell? ⟨w.heap.size, 1, none⟩ = some (.string x.text) := (blk_cell HX0.out.get 1).trans rfl
  have HA1 := Aside0.mk (HA.out.below hb0)
  have HB1 := Aside0.mk hb0
  clear hb0 HA HX0
  generalize w.alloc (.cells #[.string x.name, .string x.text, .bool x.write] 26) = w1 at *
  generalize hq : w.heap.size = q at z0 z1 ⊢
  have HQ := Aside0.mk hq
  clear hq
  cases hnm : namedB x.name with
  | false =>
    obtain rfl : 8 = R := by have := HR.out; rw [hnm] at this; simpa using this
    clear hnm
    go_wp2
    go_ret
    exact ⟨rfl, HB1.out⟩
  | true =>
    rw [hnm] at HR
    clear hnm
    have HR2 : Aside0 ((if (bs.any fun y => y.name.toList == x.name.toList) = true then 5 else match lineR x.text.data.toList 0 false with | none => 2 | some long => if long = true ∨ 1048576 < x.text.size then 3 else 0) = R) := ⟨by have := HR.out; rw [if_neg (by decide)] at this; exact this⟩
    have HZ1 := Aside0.mk z1
    clear HR HN
    go_wp2
    go_loopw [5] (fun i wr => ∃ k : Nat, k ≤ bs.length ∧ i = .int .i64 k ∧ Aside0 (Below w1.heap.size w1 wr) ∧ Aside0 ((bs.take k).any (fun y => y.name.toList == x.name.toList) = false)) (fun i _ => bs.length - (intOf i).toNat)
    case atStart => exact ⟨0, Nat.zero_le _, rfl, ⟨Below.refl _ _⟩, ⟨by simp⟩⟩
    case round =>
      obtain ⟨k, hk, rfl, HB, HK⟩ := hrel
      by_cases hlt : k < bs.length
      · obtain ⟨g, o, rfl, h0, h1, h2⟩ := (HA1.out.below HB.out) k hlt
        have hc := (HB.out.cell (p := ⟨q, 0, none⟩) (World.block_lt_of_cell? _ _ z0)).trans z0
        have hsn : (bs.take (k + 1)).any (fun y => y.name.toList == x.name.toList) = (bs[k].name.toList == x.name.toList) := by
          rw [List.take_succ_eq_append_getElem hlt, List.any_append, HK.out]; simp
        have HSN := Aside0.mk hsn
        have HM := Aside0.mk (List.getElem_mem hlt)
        clear hsn z0
        generalize bs[k] = y at *
        cases hq : (y.name.toList == x.name.toList) with
        | true =>
          have hany : bs.any (fun y => y.name.toList == x.name.toList) = true := List.any_eq_true.2 ⟨y, HM.out, hq⟩
          obtain rfl : 5 = R := by have := HR2.out; rw [if_pos hany] at this; exact this
          clear hany
          go_wp2
          go_quiet (fail)
          go_wp2
          go_ret
          exact ⟨rfl, below_step HB1.out (by first | exact HB.out | exact pw_below_drewN HB.out _ | exact below_drew1 HB.out)⟩
        | false =>
          rw [hq] at HSN
          go_wp2
          go_quiet (fail)
          go_wp2
          go_roundw
          case rel => exact ⟨k + 1, by omega, by go_num, ⟨by first | exact HB.out | exact pw_below_drewN HB.out _ | exact below_drew1 HB.out⟩, HSN⟩
          case measure => simp [intOf]; omega
      · obtain rfl : k = bs.length := by omega
        have hany := HK.out
        rw [List.take_length] at hany
        have HR3 : Aside0 ((match lineR x.text.data.toList 0 false with | none => 2 | some long => if long = true ∨ 1048576 < x.text.size then 3 else 0) = R) := ⟨by have := HR2.out; rw [hany] at this; simpa using this⟩
        have z1' : wr.cell? ⟨q, 1, none⟩ = some (.string x.text) := (HB.out.cell (p := ⟨q, 1, none⟩) (World.block_lt_of_cell? _ _ z1)).trans z1
        have HB2 := Aside0.mk (below_step HB1.out HB.out)
        clear HR2 hany HK HB HA1 z0 z1
        have hsz := HT.out
        generalize hRR : lineR x.text.data.toList 0 false = RR at *
        have HRR := Aside0.mk hRR
        clear hRR
        have hb1 : (1048576 < x.text.size) ∨ ¬ (1048576 < x.text.size) := by omega
        obtain ⟨lg, hlg⟩ : ∃ lg, decide (1048576 < x.text.size) = lg := ⟨_, rfl⟩
        have hlg' : decide ((1048576 : Int) < (x.text.size : Int)) = lg := by rw [← hlg]; congr 1; exact propext (by omega)
        have HLG := Aside0.mk hlg
        clear hb1 hlg
        have HCH := Aside0.mk (fun (d : Nat) (W : World) => r_character d W _ rfl)
        have HEN := Aside0.mk (fun (d : Nat) (W : World) => r_end d W _ rfl)
        have HRB := Aside0.mk (Below.refl wr.heap.size wr)
        have HHZ : Aside0 (∀ W, Below wr.heap.size wr W → W.cell? ⟨q, 1, none⟩ = some (.string x.text)) := ⟨fun W hb => (hb.cell (p := ⟨q, 1, none⟩) (World.block_lt_of_cell? _ _ z1')).trans z1'⟩
        obtain ⟨w5, rfl⟩ : ∃ w5, w5 = wr := ⟨_, rfl⟩
        go_wp2
        go_quiet (fail)
        go_wp2
        go_loopw [6, 7, 8] (fun l g i wq => ∃ (k n : Nat) (b : Bool), k ≤ x.text.size ∧ i = .int .i64 k ∧ l = .int .i64 n ∧ g = .bool (b || lg) ∧ n ≤ k ∧ Aside0 (lineR (x.text.data.toList.drop k) n b = RR) ∧ Aside0 (Below w5.heap.size w5 wq)) (fun _ _ i _ => x.text.size - (intOf i).toNat)
        case atStart => exact ⟨0, 0, false, Nat.zero_le _, rfl, rfl, by first | rfl | exact congrArg Value.bool hlg', Nat.le_refl _, HRR, ⟨by first | exact HRB.out | exact pw_below_drewN HRB.out _ | exact below_drew1 HRB.out⟩⟩
        case round =>
          obtain ⟨k, n, b, hk, rfl, rfl, rfl, hnk, HK, HW⟩ := hrel
          clear z1' hlg'
          have z1q := HHZ.out wr HW.out
          by_cases hlt : k < x.text.size
          · have hd : x.text.data.toList.drop k = x.text[k] :: x.text.data.toList.drop (k + 1) := by
              rw [List.drop_eq_getElem_cons (by simpa using hlt)]; rfl
            rw [hd] at HK
            clear hd
            have hn1 : n < 9223372036854775807 := by omega
            have HC1 := Aside0.mk (HCH.out x.text[k].toNat wr)
            have HE1 := Aside0.mk (HEN.out x.text[k].toNat wr)
            have HK2 : Aside0 ((if x.text[k].toNat = 10 ∨ x.text[k].toNat = 12 then lineR (x.text.data.toList.drop (k + 1)) 0 b else if 32 ≤ x.text[k].toNat ∧ x.text[k].toNat ≤ 126 then lineR (x.text.data.toList.drop (k + 1)) (n + 1) (b || decide (200 < n + 1)) else none) = RR) := ⟨HK.out⟩
            clear HK
            by_cases hend : x.text[k].toNat = 10 ∨ x.text[k].toNat = 12
            · rw [if_pos hend] at HK2
              rw [decide_eq_true (show x.text[k].toNat = 10 ∨ x.text[k].toNat = 12 ∨ (32 ≤ x.text[k].toNat ∧ x.text[k].toNat ≤ 126) by omega)] at HC1
              rw [decide_eq_true hend] at HE1
              clear hend
              have HG : Aside0 (∀ c : Bool, (c || false) = c) := ⟨Bool.or_false⟩
              cases hbl : (b || lg) with
              | true =>
                have HBL := Aside0.mk hbl
                clear hbl
                go_wp2_with ((first | (go_at_call 58; refine HC1.out.mono ?_) | (go_at_call 59; refine HE1.out.mono ?_)); rintro e w' ⟨rfl, rfl⟩)
                go_roundw
                case rel => exact ⟨k + 1, 0, b, by omega, by go_num, rfl, by rw [HBL.out], by omega, HK2, HW⟩
                case measure => simp [intOf]; omega
              | false =>
                have HBL := Aside0.mk hbl
                clear hbl
                go_wp2_with ((first | (go_at_call 58; refine HC1.out.mono ?_) | (go_at_call 59; refine HE1.out.mono ?_)); rintro e w' ⟨rfl, rfl⟩)
                go_roundw
                case rel => exact ⟨k + 1, 0, b, by omega, by go_num, rfl, by rw [HBL.out], by omega, HK2, HW⟩
                case measure => simp [intOf]; omega
            · rw [if_neg hend] at HK2
              rw [decide_eq_false hend] at HE1
              by_cases hp : 32 ≤ x.text[k].toNat ∧ x.text[k].toNat ≤ 126
              · rw [if_pos hp] at HK2
                rw [decide_eq_true (.inr (.inr hp))] at HC1
                clear hend hp
                cases hbl : (b || lg) with
                | true =>
                  have HBL : Aside0 (((b || decide (200 < n + 1)) || lg) = true) := ⟨by rw [Bool.or_right_comm, hbl, Bool.true_or]⟩
                  clear hbl
                  go_wp2_with ((first | (go_at_call 58; refine HC1.out.mono ?_) | (go_at_call 59; refine HE1.out.mono ?_)); rintro e w' ⟨rfl, rfl⟩)
                  go_roundw
                  case rel => exact ⟨k + 1, n + 1, b || decide (200 < n + 1), by omega, by go_num, by go_num, by rw [HBL.out], by omega, HK2, HW⟩
                  case measure => simp [intOf]; omega
                | false =>
                  have HBL : Aside0 (((b || decide (200 < n + 1)) || lg) = decide (200 < n + 1)) := ⟨by rw [Bool.or_right_comm, hbl, Bool.false_or]⟩
                  clear hbl
                  by_cases hlong : 200 < n + 1
                  · have hl' : (200 : Int) < (n : Int) + 1 := by omega
                    have HBL2 : Aside0 (((b || decide (200 < n + 1)) || lg) = true) := ⟨by rw [HBL.out, decide_eq_true hlong]⟩
                    go_wp2_with ((first | (go_at_call 58; refine HC1.out.mono ?_) | (go_at_call 59; refine HE1.out.mono ?_)); rintro e w' ⟨rfl, rfl⟩)
                    go_roundw
                    case rel => exact ⟨k + 1, n + 1, b || decide (200 < n + 1), by omega, by go_num, by go_num, by first | (rw [HBL2.out]; done) | (rw [HBL2.out]; first | rfl | (simp; omega)), by omega, HK2, HW⟩
                    case measure => simp [intOf]; omega
                  · have hl' : ¬ (200 : Int) < (n : Int) + 1 := by omega
                    have HBL2 : Aside0 (((b || decide (200 < n + 1)) || lg) = false) := ⟨by rw [HBL.out, decide_eq_false hlong]⟩
                    go_wp2_with ((first | (go_at_call 58; refine HC1.out.mono ?_) | (go_at_call 59; refine HE1.out.mono ?_)); rintro e w' ⟨rfl, rfl⟩)
                    go_roundw
                    case rel => exact ⟨k + 1, n + 1, b || decide (200 < n + 1), by omega, by go_num, by go_num, by first | (rw [HBL2.out]; done) | (rw [HBL2.out]; first | rfl | (simp; omega)), by omega, HK2, HW⟩
                    case measure => simp [intOf]; omega
              · rw [if_neg hp] at HK2
                rw [decide_eq_false (show ¬ (x.text[k].toNat = 10 ∨ x.text[k].toNat = 12 ∨ (32 ≤ x.text[k].toNat ∧ x.text[k].toNat ≤ 126)) by omega)] at HC1
                obtain rfl : 2 = R := by have := HR3.out; rw [← HK2.out] at this; exact this
                go_wp2_with ((first | (go_at_call 58; refine HC1.out.mono ?_) | (go_at_call 59; refine HE1.out.mono ?_)); rintro e w' ⟨rfl, rfl⟩)
                go_ret
                exact ⟨rfl, below_step HB2.out HW.out⟩
          · obtain rfl : k = x.text.size := by omega
            have hd : x.text.data.toList.drop x.text.size = [] := List.drop_eq_nil_of_le (by simp)
            rw [hd] at HK
            clear hd
            have HR4 : Aside0 ((if (b || lg) = true then 3 else 0) = R) := ⟨by
              have h1 := HR3.out
              rw [← HK.out] at h1
              rw [← h1]
              show _ = (if b = true ∨ 1048576 < x.text.size then 3 else 0)
              rw [← HLG.out]
              simp⟩
            cases hbl : (b || lg) with
            | true =>
              obtain rfl : 3 = R := by have := HR4.out; rw [hbl] at this; exact this
              clear hbl
              go_wp2
              go_ret
              exact ⟨rfl, below_step HB2.out HW.out⟩
            | false =>
              obtain rfl : 0 = R := by have := HR4.out; rw [hbl] at this; exact this
              clear hbl
              go_wp2
              go_ret
              exact ⟨rfl, below_step HB2.out HW.out⟩
end Go.Proofs.Ytonmdifmlpfcpaa.PB
