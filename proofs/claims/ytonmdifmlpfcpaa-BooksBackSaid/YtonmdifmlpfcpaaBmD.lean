import Derived.StillTailTactics
import Derived.ArgAppend
import Derived.Below
import Derived.BigQuiet
import Derived.Deep.AppendLies
import Derived.Deep.CutBlock
import Derived.Deep.DeepCutAuto
import Derived.Deep.Draws
import Derived.Deep.LoopGhost
import Derived.Deep.OwnRows
import Derived.Deep.QuietTactic
import Derived.Deep.RegionHeld3
import Derived.KernelRfl
import Derived.Laws.Bits64b
import Derived.Laws.BitsLemmas
import Derived.Laws.BytesArg
import Derived.Laws.Externs
import Derived.Laws.IdiomCopy
import Derived.Laws.MakeOwn
import Derived.Laws.MathBits
import Derived.Laws.OwnMore
import Derived.Laws.Rows
import Derived.Laws.Slices
import Derived.Lib.AppendStr
import Derived.Lib.ConvBytes
import Derived.Maps.AppendAt
import Derived.OrdersHeld
import Derived.OwnWalk
import Derived.RowKit
import Derived.RowKit3
import Derived.Tactics
import Derived.Test.YtonmdifmlpfcpaaProg
import Derived.WalkKit
import Derived.WideLaws
import Derived.Lib.Walk
import Derived.Lib.SliceRun
import Derived.Lib.JoinLaws
import Derived.Lib.AppendZeros
import Derived.Lib.Overlaps
import Derived.Lib.AppendZerosOnto
import Derived.Shelf.RegionOpenPlain
import Derived.Shelf.Spec.SlicesInsert
import Derived.Deep.RegionLaw
import Derived.Lib.BufferRead
import Derived.Laws.IdiomStrings
import Derived.Test.YtonmdifmlpfcpaaWWords
import Derived.Test.YtonmdifmlpfcpaaWLast
import Derived.Test.YtonmdifmlpfcpaaWTab
import Derived.Test.YtonmdifmlpfcpaaWFour
import Derived.Test.YtonmdifmlpfcpaaWQPut
import Derived.Test.YtonmdifmlpfcpaaWApart
import Derived.Test.YtonmdifmlpfcpaaWArr
import Derived.Test.YtonmdifmlpfcpaaWZeros
import Derived.Test.YtonmdifmlpfcpaaWFoot
import Derived.Test.YtonmdifmlpfcpaaWKept
import Derived.Test.YtonmdifmlpfcpaaWShare
import Derived.Test.YtonmdifmlpfcpaaWN
import Derived.Test.YtonmdifmlpfcpaaWFootNe
import Derived.Test.YtonmdifmlpfcpaaWAt
import Derived.Test.YtonmdifmlpfcpaaWEqStruct
import Derived.Test.YtonmdifmlpfcpaaWRepsOne
import Derived.Test.YtonmdifmlpfcpaaWInv
import Derived.Test.YtonmdifmlpfcpaaWInvWords
import Derived.Test.YtonmdifmlpfcpaaWGuard
import Derived.Test.YtonmdifmlpfcpaaWNEv
import Derived.Test.YtonmdifmlpfcpaaWMore
import Derived.Test.YtonmdifmlpfcpaaBmC
namespace Go.Proofs.Ytonmdifmlpfcpaa.PB
open Go.RowKit Go.Proofs.YtonmdifmlpfcpaaW.PrintWords Go.Proofs.YtonmdifmlpfcpaaW.PrintLast Go.Proofs.YtonmdifmlpfcpaaW.PrintMore
set_option linter.unusedVariables false
set_option linter.unusedSimpArgs false
set_option maxRecDepth 100000
set_option maxHeartbeats 1000000
def MW.setT (m : MW) (id : Nat) (t : List UInt8) : MW := { m with books := m.books.map fun b => if b.id = id then { b with text := t } else b }
theorem setT_ids (m : MW) (id : Nat) (t : List UInt8) : (m.setT id t).books.map MBk.id = m.books.map MBk.id := by
  simp only [MW.setT, List.map_map]
  refine List.map_congr_left fun b _ => ?_
  show (if b.id = id then { b with text := t } else b).id = b.id
  split <;> rfl
theorem mem_setT {m : MW} {id : Nat} {t : List UInt8} {c : MBk} (h : c ∈ (m.setT id t).books) : ∃ b ∈ m.books, c = if b.id = id then { b with text := t } else b := by
  obtain ⟨b, hb, rfl⟩ := List.mem_map.1 h
  exact ⟨b, hb, rfl⟩
theorem MW.ok.setT {m : MW} (h : m.ok) (id : Nat) (t : List UInt8) (ht : t.length ≤ 1048576) : (m.setT id t).ok where
  bs := by show (m.books.map _).length ≤ 67; rw [List.length_map]; exact h.bs
  fs := h.fs
  ids := by rw [setT_ids]; exact h.ids
  lt := fun c hc => by
    obtain ⟨b, hb, rfl⟩ := mem_setT hc
    have := h.lt b hb
    split <;> exact this
  tx := fun c hc => by
    obtain ⟨b, hb, rfl⟩ := mem_setT hc
    have := h.tx b hb
    split
    · exact ht
    · exact this
  nums := h.nums
  pos := h.pos
  has := fun f hf => by
    obtain ⟨b, hb, e⟩ := h.has f hf
    refine ⟨_, List.mem_map_of_mem hb, ?_⟩
    show (if b.id = id then { b with text := t } else b).id = f.bk
    split <;> exact e
/-- a book's text is another -/
theorem WAt.setT {κ : Nat → Tag} {L : Lay} {w w' : World} {m : MW} (h : WAt κ L w m) {b : MBk} (hb : b ∈ m.books) (t' : List UInt8) (ht : t'.length ≤ 1048576) (tv' : Value) (g' : Nat)
    (h1 : w'.os = w.os) (h2 : w'.tape = w.tape) (h3 : w'.output = w.output) (hsz : w.heap.size ≤ w'.heap.size) (hgl : g' < w'.heap.size)
    (hc : w'.heap[L.bk b.id]? = some (.cells #[.string b.name, tv', .bool b.write] 62 (0, 0)))
    (htx : ∀ κ' : Nat → Tag, κ' g' = .tx b.id → TxAt κ' (.tx b.id) w' tv' t') (hg : κ g' = .tx b.id ∨ w.heap.size ≤ g')
    (ho : ∀ k, k < w.heap.size → k ≠ L.bk b.id → k ≠ g' → w'.heap[k]? = w.heap[k]?) :
    St κ w (fun k => if k = g' then .tx b.id else κ k) { L with tv := fun i => if i = b.id then tv' else L.tv i } w' (m.setT b.id t') := by
  have hkeep : ∀ k, κ k ≠ .no → κ k ≠ .tx b.id → (if k = g' then Tag.tx b.id else κ k) = κ k := fun k h1 h2 => by
    rw [if_neg]
    rintro rfl
    rcases hg with hg | hg
    · exact h2 hg
    · have := h.lt h1; omega
  have hoth : ∀ k, κ k ≠ .no → κ k ≠ .bk b.id → κ k ≠ .tx b.id → w'.heap[k]? = w.heap[k]? := fun k k1 k2 k3 =>
    ho k (h.lt k1) (fun e => k2 (e ▸ h.kb b hb)) (fun e => by
      subst e
      rcases hg with hg | hg
      · exact k3 hg
      · have := h.lt k1; omega)
  have hid : ∀ c ∈ m.books, c.id = b.id → c = b := fun c hc e => h.ok.id_inj hc hb e
  refine ⟨⟨h.ok.setT b.id t' ht, ?_, ?_, ?_, ?_, ?_, ?_, ?_, ?_, ?_, ?_, ?_, ?_⟩, ?_⟩
  · exact (hkeep L.p (by rw [h.tp]; exact Tag.noConfusion) (by rw [h.tp]; exact Tag.noConfusion)).trans h.tp
  · exact (hoth L.p (by rw [h.tp]; exact Tag.noConfusion) (by rw [h.tp]; exact Tag.noConfusion) (by rw [h.tp]; exact Tag.noConfusion)).trans h.hp
  · have e1 : (m.setT b.id t').books.length = m.books.length := by show (m.books.map _).length = _; rw [List.length_map]
    have e2 : ((m.setT b.id t').books.map fun c => pt (L.bk c.id)) = m.books.map fun c => pt (L.bk c.id) := by
      have := congrArg (List.map fun n => pt (L.bk n)) (setT_ids m b.id t')
      simpa only [List.map_map, Function.comp_def] using this
    rw [e1]
    show w'.ownsRow 0 _ 1 L.vb _ ((m.setT b.id t').books.map fun c => pt (L.bk c.id))
    rw [e2]
    exact ownsRow_of_block h.rb fun g hg => hoth g (by rw [h.tb g hg]; exact Tag.noConfusion) (by rw [h.tb g hg]; exact Tag.noConfusion) (by rw [h.tb g hg]; exact Tag.noConfusion)
  · exact fun g hg => (hkeep g (by rw [h.tb g hg]; exact Tag.noConfusion) (by rw [h.tb g hg]; exact Tag.noConfusion)).trans (h.tb g hg)
  · exact ownsRow_of_block h.rf fun g hg => hoth g (by rw [h.tf g hg]; exact Tag.noConfusion) (by rw [h.tf g hg]; exact Tag.noConfusion) (by rw [h.tf g hg]; exact Tag.noConfusion)
  · exact fun g hg => (hkeep g (by rw [h.tf g hg]; exact Tag.noConfusion) (by rw [h.tf g hg]; exact Tag.noConfusion)).trans (h.tf g hg)
  · intro c hc
    obtain ⟨d, hd, rfl⟩ := mem_setT hc
    have e : (if d.id = b.id then { d with text := t' } else d).id = d.id := by split <;> rfl
    rw [e]
    exact (hkeep (L.bk d.id) (by rw [h.kb d hd]; exact Tag.noConfusion) (by rw [h.kb d hd]; exact Tag.noConfusion)).trans (h.kb d hd)
  · intro c hc2
    obtain ⟨d, hd, rfl⟩ := mem_setT hc2
    by_cases e : d.id = b.id
    · rw [if_pos e]
      obtain rfl := hid d hd e
      show w'.heap[L.bk d.id]? = some (.cells #[.string d.name, (if d.id = d.id then tv' else L.tv d.id), .bool d.write] _ (0, 0))
      rw [if_pos rfl]
      exact hc
    · rw [if_neg e]
      show w'.heap[L.bk d.id]? = some (.cells #[.string d.name, (if d.id = b.id then tv' else L.tv d.id), .bool d.write] _ (0, 0))
      rw [if_neg e]
      exact (hoth (L.bk d.id) (by rw [h.kb d hd]; exact Tag.noConfusion) (by rw [h.kb d hd]; intro q; exact e (Tag.bk.inj q)) (by rw [h.kb d hd]; exact Tag.noConfusion)).trans (h.hb d hd)
  · intro c hc2
    obtain ⟨d, hd, rfl⟩ := mem_setT hc2
    by_cases e : d.id = b.id
    · rw [if_pos e]
      obtain rfl := hid d hd e
      show TxAt _ (.tx d.id) w' (if d.id = d.id then tv' else L.tv d.id) t'
      rw [if_pos rfl]
      exact htx _ (if_pos rfl)
    · rw [if_neg e]
      show TxAt _ (.tx d.id) w' (if d.id = b.id then tv' else L.tv d.id) d.text
      rw [if_neg e]
      exact (h.tx d hd).of_block (fun g hg => (hkeep g (by rw [hg]; exact Tag.noConfusion) (by rw [hg]; intro q; exact e (Tag.tx.inj q))).trans hg) (fun g hg => hoth g (by rw [hg]; exact Tag.noConfusion) (by rw [hg]; exact Tag.noConfusion) (by rw [hg]; intro q; exact e (Tag.tx.inj q)))
  · exact fun f hf => (hkeep (L.fl f.num) (by rw [h.kf f hf]; exact Tag.noConfusion) (by rw [h.kf f hf]; exact Tag.noConfusion)).trans (h.kf f hf)
  · exact fun f hf => (hoth (L.fl f.num) (by rw [h.kf f hf]; exact Tag.noConfusion) (by rw [h.kf f hf]; exact Tag.noConfusion) (by rw [h.kf f hf]; exact Tag.noConfusion)).trans (h.hf f hf)
  · intro k hk
    show (if k = g' then Tag.tx b.id else κ k) = .no
    rw [if_neg (by omega)]
    exact h.top k (by omega)
  · refine ⟨h1, h2, h3, hsz, fun k hk hn => ho k hk (fun e => ?_) (fun e => ?_), fun k hk => ?_⟩
    · rw [e, h.kb b hb] at hn; exact Tag.noConfusion hn
    · subst e
      rcases hg with hg | hg
      · rw [hg] at hn; exact Tag.noConfusion hn
      · omega
    · by_cases e : k = g'
      · subst e
        show (if k = k then Tag.tx b.id else κ k) = .no ↔ _
        rw [if_pos rfl]
        rcases hg with hg | hg
        · rw [hg]
        · omega
      · show (if k = g' then Tag.tx b.id else κ k) = .no ↔ _
        rw [if_neg e]
theorem infoU : (Try.prog.info? 5).map (fun i => (i.zero, i.size, i.bytes)) = some (some (.int .u8 0), 1, 1) := by kernel_rfl
/-- one byte is appended to the first k of a text -/
theorem app_byte {κ : Nat → Tag} {t : Tag} {w : World} {a : Option Addr} {n cap : Nat} {l : List UInt8} (h : TxAt κ t w (.slice a n cap) l) (k : Nat) (hk : k ≤ l.length) (hl : l.length ≤ 1048576) (c : UInt8) (vb : Nat) (hv : w.heap[vb]? = some (.cells #[.int .u8 c.toNat] 5 (0, 0))) (hvb : κ vb ≠ t) (ty : TypeId) :
    ∃ g' cap' w', (Builtin.append_ #[60, 60] ty #[.slice a k cap, .slice (some ⟨vb, 0, none⟩) 1 1]).run Try.prog w = .ok (.slice (some ⟨g', 0, none⟩) (k + 1) cap') w' ∧ (κ g' = t ∧ a = some ⟨g', 0, none⟩ ∨ g' = w.heap.size) ∧ w.grownBy w' (some g') ∧ g' < w'.heap.size ∧
      ∀ κ' : Nat → Tag, κ' g' = t → TxAt κ' t w' (.slice (some ⟨g', 0, none⟩) (k + 1) cap') (l.take k ++ [c]) := by
  obtain ⟨i0, hi, hz0, hz1, hz2⟩ := info_parts infoU
  have hnews : ∀ j u, [Value.int .u8 c.toNat][j]? = some u → w.cell? ((⟨vb, 0, none⟩ : Addr).add j) = some u := fun j u hu => by
    cases j with
    | zero => simp at hu; subst hu; exact (blk_cell hv 0).trans rfl
    | succ j => simp at hu
  have h1v : ∀ u ∈ [Value.int .u8 (c.toNat : Int)], u.oneCell' = true := fun u hu => by obtain rfl := List.mem_singleton.1 hu; rfl
  have hlen : (l.take k ++ [c]).length = k + 1 := by rw [List.length_append, List.length_take, List.length_singleton]; omega
  have hu8 : u8s (l.take k ++ [c]) = (u8s l).take k ++ [.int .u8 c.toNat] := by simp [u8s, List.map_take]
  have grow : ∀ (olds : List Value), olds.length = k → olds = (u8s l).take k → (Builtin.firstCells i0.size k (.slice a k cap)).run Try.prog w.drew = .ok olds.toArray w.drew → cap < k + 1 →
      ∃ g' cap' w', (Builtin.append_ #[60, 60] ty #[.slice a k cap, .slice (some ⟨vb, 0, none⟩) 1 1]).run Try.prog w = .ok (.slice (some ⟨g', 0, none⟩) (k + 1) cap') w' ∧ (κ g' = t ∧ a = some ⟨g', 0, none⟩ ∨ g' = w.heap.size) ∧ w.grownBy w' (some g') ∧ g' < w'.heap.size ∧
      ∀ κ' : Nat → Tag, κ' g' = t → TxAt κ' t w' (.slice (some ⟨g', 0, none⟩) (k + 1) cap') (l.take k ++ [c]) := fun olds ho he hold hcap => by
    have hr := run_append_grow_src w 60 60 ty 5 i0 _ Try.underlying60 hi hz0 a k cap olds hold _ 1 _ (Src.ofSlice w Try.underlying60 ⟨vb, 0, none⟩ 1 1 [.int .u8 c.toNat] (by rw [hz1]; rfl) hnews h1v) hcap (by omega) (by rw [hz2]; exact growslice_fits hcap (by omega))
    have hge := grownCap_ge w (k + 1) cap 5
    have hgm := grownCap_le_maxLen w (k + 1) cap 5 (by unfold maxLen; omega)
    refine ⟨w.heap.size, _, _, hr, .inr rfl, ⟨rfl, rfl, rfl, by simp, fun q hq _ => Below.heap_alloc w.drew _ _ hq⟩, by simp, fun κ' hκ' => .inr (.inr ⟨w.heap.size, grownCap w (k + 1) cap 5, _, 0, 0, by rw [hlen], hκ', blk_new w.drew _, by rw [hlen]; exact hge, ?_, hgm, fun j _ => by omega, ?_⟩)⟩
    · simp [Builtin.zeroCells, Value.cells, ho]; omega
    · rw [hlen, hu8, ← he, Array.toList_append, List.take_append_of_le_length (by simp [ho]), List.take_of_length_le (by simp [ho])]
  rcases h with ⟨hv0, rfl⟩ | ⟨a0, hv0, rfl⟩ | ⟨g, cap0, cur, lo, hi', hv0, hkg, hg, hc1, hc2, hc3, hfz, hx⟩
  · cases hv0
    obtain rfl : k = 0 := by simpa using hk
    exact grow [] rfl rfl (by rw [hz1]; exact run_firstCells_none w.drew 1 0 0 0) (by omega)
  · cases hv0
    obtain rfl : k = 0 := by simpa using hk
    exact grow [] rfl rfl (by rw [hz1]; exact run_firstCells_some w.drew 1 0 a0 0 0 [] rfl (fun j v hj => by simp at hj)) (by omega)
  · cases hv0
    have hcell : ∀ j, j < l.length → w.cell? ⟨g, j, none⟩ = (u8s l)[j]? := fun j hj => by
      rw [← hx, List.getElem?_take, if_pos hj]
      simp [World.cell?, hg]
    have hul : (u8s l).length = l.length := by simp [u8s]
    by_cases hroom : k + 1 ≤ cap
    · have hr := run_append_room_cells (P := Try.prog) w 60 ty 5 i0 Try.underlying60 hi g 0 k cap ⟨vb, 0, none⟩ 1 1 [.int .u8 c.toNat] (by rw [hz1]; rfl) hnews h1v hroom
        (fun j hj => by
          have : j = 0 := by simp at hj; omega
          subst this
          rw [hz1]; simp only [World.cell?, hg]; simp; omega)
        (fun j hj => by
          have : j = 0 := by simp at hj; omega
          subst this
          rw [hz1]
          have := hfz k (by omega)
          simp only [World.frozen?, hg, Nat.zero_add, Nat.mul_one, Nat.add_zero]
          simpa using this)
      rw [hz1, Nat.zero_add, Nat.mul_one] at hr
      have hset : w.setCells g k [.int .u8 c.toNat] = w.setCell ⟨g, k, none⟩ (.int .u8 c.toNat) := rfl
      rw [hset] at hr
      have hg' : (w.setCell ⟨g, k, none⟩ (.int .u8 c.toNat)).heap[g]? = some (.cells (cur.setIfInBounds k (.int .u8 c.toNat)) 5 (lo, hi')) := by
        have hlt := (Array.getElem?_eq_some_iff.1 hg).1
        simp only [World.setCell, Array.getElem?_modify, if_true, hg, Option.map_some]
        rfl
      have hsz : (w.setCell ⟨g, k, none⟩ (.int .u8 c.toNat)).heap.size = w.heap.size := by simp [World.setCell]
      refine ⟨g, cap, _, hr, .inl ⟨hkg, rfl⟩, ⟨rfl, rfl, rfl, by rw [hsz]; exact Nat.le_refl _, fun q hq hn => Below.heap_setCell _ _ _ _ (fun e => hn (by rw [e]))⟩, by rw [hsz]; exact (Array.getElem?_eq_some_iff.1 hg).1, fun κ' hκ' => .inr (.inr ⟨g, cap, _, lo, hi', by rw [hlen], hκ', hg', by rw [hlen]; exact hroom, by simpa using hc2, hc3, hfz, ?_⟩)⟩
      rw [hlen, hu8, Array.toList_setIfInBounds]
      apply List.ext_getElem?
      intro j
      rw [List.getElem?_take]
      by_cases hj : j < k + 1
      · rw [if_pos hj]
        by_cases hjk : j < k
        · rw [List.getElem?_set_ne (by omega), List.getElem?_append_left (by rw [List.length_take]; omega), List.getElem?_take, if_pos hjk, ← hcell j (by omega)]
          simp [World.cell?, hg]
        · obtain rfl : j = k := by omega
          rw [List.getElem?_set_self (by simp; omega), List.getElem?_append_right (by rw [List.length_take]; omega)]
          have : j - ((u8s l).take j).length = 0 := by rw [List.length_take]; omega
          rw [this]; rfl
      · rw [if_neg hj, List.getElem?_eq_none (by rw [List.length_append, List.length_take, List.length_singleton]; omega)]
    · refine grow ((u8s l).take k) (by rw [List.length_take]; omega) rfl ?_ (by omega)
      rw [hz1]
      exact run_firstCells_some w.drew 1 k ⟨g, 0, none⟩ k cap ((u8s l).take k) (by rw [List.length_take]; omega) (fun j v hj => by
        rw [List.getElem?_take] at hj
        split at hj
        · rw [Addr.add_lit]
          show w.cell? ⟨g, 0 + j, none⟩ = _
          rw [Nat.zero_add, hcell j (by omega)]; exact hj
        · cases hj)
def wr_T : Bool × List (List Nat × List Nat) := (true, [([], []), ([0], [0]), ([1], [1]), ([2], [2]), ([], []), ([4], [4]), ([5], [5]), ([6], [6]), ([7], [7]), ([8], [8]), ([9], [9]), ([], []), ([10, 11], [10, 11]), ([], []), ([13], [13]), ([12, 14], [12, 14]), ([3, 0, 1, 2, 3, 4, 5, 6, 7, 8, 9, 10, 11, 12, 13, 14, 15], [3]), ([16, 0, 1, 2, 3, 4, 5, 6, 7, 8, 9, 10, 11, 12, 13, 14, 15], [16]), ([17, 15, 15, 0, 1, 2, 3, 4, 5, 6, 7, 8, 9, 10, 11, 12, 13, 14, 15], [15, 17])])
def wr_B : List Nat := [0, 1, 3, 7, 0, 16, 48, 112, 240, 496, 1008, 0, 4080, 0, 8192, 32752, 65535, 131071, 262143]
theorem cell_al2 {w : World} {o : Obj} {y : Addr} {v : Value} (h : w.cell? y = some v) : (w.alloc o).cell? y = some v :=
  (World.cell?_of_block (Below.heap_alloc w o y.block (World.block_lt_of_cell? w _ h))).trans h
theorem TxAt.at_block {κ : Nat → Tag} {t : Tag} {w w' : World} {v : Value} {l : List UInt8} (h : TxAt κ t w v l) (hb : ∀ g, v.ownBlock = some g → w'.heap[g]? = w.heap[g]?) : TxAt κ t w' v l := by
  rcases h with h | h | ⟨g, cap, cur, lo, hi, hv, ht, hc, r⟩
  · exact .inl h
  · exact .inr (.inl h)
  · exact .inr (.inr ⟨g, cap, cur, lo, hi, hv, ht, (hb g (by rw [hv]; rfl)).trans hc, r⟩)
def MW.writeF (m : MW) (f : MFl) (c : UInt8) : MW × Nat :=
  if 1048576 ≤ min f.pos (m.text f).length then (m, 30) else
  ((m.setT f.bk ((m.text f).take (min f.pos (m.text f).length) ++ [c])).setF { f with pos := min f.pos (m.text f).length + 1, mood := 2 }, 0)
/-- the store behind the append -/
theorem write_st {κ : Nat → Tag} {L : Lay} {w : World} {m : MW} (h : WAt κ L w m) {f : MFl} (hf : f ∈ m.files) (k : Nat) (hk : k ≤ (m.text f).length) (hk2 : k < 1048576) (c : UInt8) (a : Option Addr) (cap : Nat) (gb : Nat) (hgb : L.bk f.bk = gb) (hcell : w.cell? ⟨gb, 1, none⟩ = some (.slice a (m.text f).length cap)) :
    ∃ g cap' WE, (Builtin.append_ #[60, 60] 60 #[.slice a k cap, .slice (some ⟨w.heap.size, 0, none⟩) 1 1]).run Try.prog (w.drew.alloc (.cells #[.int .u8 c.toNat] 5)) = .ok (.slice (some ⟨g, 0, none⟩) (k + 1) cap') WE ∧
      ((∀ q, q < w.heap.size → κ q ≠ .tx f.bk → WE.heap[q]? = w.heap[q]?) ∧ WE.frozen? ⟨gb, 1, none⟩ = false) ∧ ∃ κ' L', L'.p = L.p ∧ L'.bk = L.bk ∧ L'.fl = L.fl ∧ St κ w κ' L' (WE.setCell ⟨gb, 1, none⟩ (.slice (some ⟨g, 0, none⟩) (k + 1) cap')) (m.setT f.bk ((m.text f).take k ++ [c])) := by
  subst hgb
  obtain ⟨b, hb, e⟩ := h.ok.has f hf
  have ht := h.ok.text (f := f) hb e
  rw [ht] at hk hcell ⊢
  rw [← e] at hcell ⊢
  have hbl := h.ok.tx b hb
  have hv : L.tv b.id = .slice a b.text.length cap := Option.some.inj ((h.bc hb).1.2.1.symm.trans hcell)
  have htx := h.tx b hb
  rw [hv] at htx
  have hW3 : (w.drew.alloc (.cells #[.int .u8 c.toNat] 5)).heap.size = w.heap.size + 1 := by
    show (w.heap.push _).size = _; simp
  have hold : ∀ k, k < w.heap.size → (w.drew.alloc (.cells #[.int .u8 c.toNat] 5)).heap[k]? = w.heap[k]? := fun k hk => Below.heap_alloc w.drew _ _ hk
  have htx3 : TxAt κ (.tx b.id) (w.drew.alloc (.cells #[.int .u8 c.toNat] 5)) (.slice a b.text.length cap) b.text := htx.of_block (fun _ h => h) (fun g hg => hold g (h.lt (by rw [hg]; exact Tag.noConfusion)))
  obtain ⟨g, cap', WE, hr, hg, hgr, hgl, hT⟩ := app_byte htx3 k hk hbl c w.heap.size (blk_new w.drew _) (by rw [h.top _ (Nat.le_refl _)]; exact Tag.noConfusion) 60
  have hbl2 : L.bk b.id < w.heap.size := h.lt (by rw [h.kb b hb]; exact Tag.noConfusion)
  have hbg : L.bk b.id ≠ g := fun e => by
    rcases hg with ⟨hg, _⟩ | hg
    · rw [← e, h.kb b hb] at hg; exact Tag.noConfusion hg
    · omega
  have hB : WE.heap[L.bk b.id]? = some (.cells (L.bcells b) 62 (0, 0)) := by
    rw [hgr.block _ (by omega) (fun e => hbg (Option.some.inj e)), hold _ hbl2]; exact h.hb b hb
  have hset : (WE.setCell ⟨L.bk b.id, 1, none⟩ (.slice (some ⟨g, 0, none⟩) (k + 1) cap')).heap.size = WE.heap.size := by simp [World.setCell]
  have hfar : ∀ q, q ≠ L.bk b.id → (WE.setCell ⟨L.bk b.id, 1, none⟩ (.slice (some ⟨g, 0, none⟩) (k + 1) cap')).heap[q]? = WE.heap[q]? := fun q hq => Below.heap_setCell _ _ _ _ hq
  have hsW : w.heap.size + 1 ≤ WE.heap.size := by rw [← hW3]; exact hgr.size
  refine ⟨g, cap', WE, hr, ⟨fun q hq hn => by
      rw [hgr.block q (by omega) (fun e2 => ?_), hold q hq]
      have e3 : q = g := Option.some.inj e2
      rcases hg with ⟨hg, _⟩ | hg
      · exact hn (by rw [e3, hg, e])
      · omega, blk_frozen hB 1⟩, (fun k => if k = g then .tx b.id else κ k), { L with tv := fun i => if i = b.id then (.slice (some ⟨g, 0, none⟩) (k + 1) cap') else L.tv i }, rfl, rfl, rfl, WAt.setT h hb _ (by rw [List.length_append, List.length_take, List.length_singleton]; omega) _ g hgr.os hgr.tape hgr.output (by rw [hset]; omega) (by rw [hset]; exact hgl) (blk_put hB 1 _ rfl) (fun κ' hκ' => (hT κ' hκ').at_block fun q hq => hfar q (by have : g = q := Option.some.inj hq; rw [← this]; exact hbg.symm)) ?_ (fun q hq h1 h2 => ?_)⟩
  · rcases hg with ⟨hg, _⟩ | hg
    · exact .inl hg
    · exact .inr (by omega)
  · rw [hfar q h1, hgr.block q (by omega) (fun e => h2 (Option.some.inj e)), hold q hq]
/-- the walk of (*file).write: behind place -/
theorem write_walk {κ : Nat → Tag} {L : Lay} {m m' : MW} {f : MFl} (c : UInt8) (w : World) (h : WAt κ L w m) (hf : f ∈ m.files) (e : Nat) (hr : m.writeF f c = (m', e)) :
    Calls Try.prog 47 #[pt (L.fl f.num), .int .u8 c.toNat] w fun x w' => x = .returned (.int .i64 e) ∧ ∃ κ' L', L'.p = L.p ∧ L'.fl = L.fl ∧ St κ w κ' L' w' m' := by
  have HP := Aside0.mk (place_walk w h hf)
  have H := Aside0.mk h
  have HM := Aside0.mk hf
  have hkk : min f.pos (m.text f).length ≤ (m.text f).length := Nat.min_le_right _ _
  unfold MW.writeF at hr
  obtain ⟨k, hk⟩ : ∃ k, min f.pos (m.text f).length = k := ⟨_, rfl⟩
  rw [hk] at HP hr hkk
  clear h hf hk
  unfold pt at *
  by_cases hbig : 1048576 ≤ k
  · rw [if_pos hbig] at hr
    obtain ⟨rfl, rfl⟩ := Prod.mk.inj hr
    have hb' : (1048576 : Int) ≤ (k : Int) := by omega
    go_enter Try.func47, Try.ntmps47
    go_wp2_with fail
    refine HP.out.mono ?_
    rintro e w1 ⟨rfl, hb⟩
    have H1 := Aside0.mk ((H.out.st).below hb.below)
    go_wp2
    go_ret
    exact ⟨rfl, κ, L, rfl, rfl, H1.out⟩
  · rw [if_neg hbig] at hr
    obtain ⟨rfl, rfl⟩ := Prod.mk.inj hr
    have hd : decide ((1048576 : Int) ≤ (k : Int)) = false := decide_eq_false (by omega)
    go_enter Try.func47, Try.ntmps47
    go_wp2_with fail
    refine HP.out.mono ?_
    rintro e w1 ⟨rfl, hb⟩
    have H1 := Aside0.mk ((H.out.st).below hb.below)
    have h1 := H1.out.1
    obtain ⟨z0, z1, z2, z3⟩ := (h1.fc HM.out).1
    obtain ⟨gb, a, cap, hg, hkg, t1, hl, hcl, hcm, hQ⟩ := h1.ft HM.out
    rw [hg] at z1
    obtain ⟨g, cap', WE, hrun, ⟨hWE, fE⟩, κ', L', hp, hbk, hfl, hst⟩ := write_st h1 HM.out k hkk (by omega) c a cap gb hg t1
    have HRUN := Aside0.mk hrun
    have zE : WE.cell? ⟨gb, 1, none⟩ = some (.slice a (m.text f).length cap) := (World.cell?_of_block (hWE gb (h1.lt (by rw [hkg]; exact Tag.noConfusion)) (by rw [hkg]; exact Tag.noConfusion))).trans t1
    have yE : WE.cell? ⟨L.fl f.num, 1, none⟩ = some (.pointer (some ⟨gb, 0, none⟩)) := (World.cell?_of_block (hWE (L.fl f.num) (h1.lt (by rw [h1.kf f HM.out]; exact Tag.noConfusion)) (by rw [h1.kf f HM.out]; exact Tag.noConfusion))).trans z1
    have HS := Aside0.mk hst
    have hf' : f ∈ (m.setT f.bk ((m.text f).take k ++ [c])).files := HM.out
    have hst2 := (HS.out.1).put23 hf' (k + 1) 2 (by omega)
    have q2 := (HS.out.1.fc hf').1.2.2.1
    have q3 := (HS.out.1.fc hf').1.2.2.2
    have f2 := (HS.out.1.fc hf').2.1
    have f3 := (HS.out.1.fc hf').2.2
    rw [hfl] at hst2 q2 q3 f2 f3
    have HS2 := Aside0.mk ((H1.out.then hst).then hst2)
    have hkc : k ≤ cap := Nat.le_trans hkk hcl
    have hcm2 : cap ≤ 9223372036854775807 := hcm
    have hgf : gb ≠ L.fl f.num := tne hkg (h1.kf f HM.out) Tag.noConfusion
    have hlt := Aside0.mk (show k < 1048576 by omega)
    have hkw : (k : Int) ≤ 4611686018427387904 := by omega
    have HLAY := Aside0.mk (And.intro hp hfl)
    clear hrun hWE hst hst2 hb hg hkg hQ h1 HS hp hbk hfl hbig
    generalize L.fl f.num = fb at *
    go_upto_region 4 with fail
    refine start_ (n := 19) (S := fun w' => w'.cell? ⟨fb, 1, none⟩ = some (.pointer (some ⟨gb, 0, none⟩)) ∧ w'.cell? ⟨gb, 1, none⟩ = some (.slice a (m.text f).length cap)) (ds := [18]) (bl 19 0) (by kernel_rfl) (by kernel_rfl) (by kernel_rfl) (⟨z1, t1⟩) (fun hHeld => ?_)
    refine with_tabW (T := wr_T) (B := wr_B) (by as_aux_lemma => kernel_rfl) (by as_aux_lemma => kernel_rfl) (fun HT_ HW_ => ?_)
    refine pu 0 10 (bl 19 0x1) HT_ ?_
    refine pu 1 11 (bl 19 0x3) HT_ ?_
    refine pu 2 12 (bl 19 0x7) HT_ ?_
    refine ta 3 13 (bl 19 0xf) HT_ HW_ hHeld ?_
    refine pu 4 14 (bl 19 0x1f) HT_ ?_
    refine pu 5 15 (bl 19 0x3f) HT_ ?_
    refine pu 6 16 (bl 19 0x7f) HT_ ?_
    refine ta 7 17 (bl 19 0xff) HT_ HW_ hHeld ?_
    refine pu 8 18 (bl 19 0x1ff) HT_ ?_
    refine pu 9 19 (bl 19 0x3ff) HT_ ?_
    refine ta 10 20 (bl 19 0x7ff) HT_ HW_ hHeld ?_
    refine pu 11 21 (bl 19 0xfff) HT_ ?_
    refine pu 12 22 (bl 19 0x1fff) HT_ ?_
    refine pu 13 23 (bl 19 0x3fff) HT_ ?_
    refine one_ (i := 14) (N := some 24) (bl 19 0x7fff) rfl rfl (one_of HT_.out (by as_aux_lemma => kernel_rfl)) (by decide) (fun K hK => ?_)
    rw [if_pos (by as_aux_lemma => kernel_rfl)]
    go_simp
    refine hK.out _ _ (⟨cell_al2 z1, cell_al2 t1⟩) (fun hHeld => ?_)
    clear hK K
    refine one_ (i := 15) (N := some 25) (bl 19 0xffff) rfl rfl (one_of HT_.out (by as_aux_lemma => kernel_rfl)) (by decide) (fun K hK => ?_)
    rw [if_pos (by as_aux_lemma => kernel_rfl)]
    refine Lib.wp_append_run _ (.tmp 22) (.tmp 24) 60 60 rfl _ (.slice (some ⟨w1.heap.size, 0, none⟩) 1 1) rfl ?_ (.slice (some ⟨g, 0, none⟩) (k + 1) cap') WE ?_ ?_
    · rfl
    · exact HRUN.out
    refine hK.out _ _ (⟨yE, zE⟩) (fun hHeld => ?_)
    clear hK K
    refine pu 16 26 (bl 19 0x1ffff) HT_ ?_
    refine pu 17 27 (bl 19 0x3ffff) HT_ ?_
    refine last_ (i := 18) (N := none) (bl 19 0x7ffff) rfl rfl (one_of HT_.out (by as_aux_lemma => kernel_rfl)) (by decide) (fun K hK => ?_)
    rw [if_pos (by as_aux_lemma => kernel_rfl)]
    go_simp
    refine hK.out _ _ ?_
    clear hK K
    refine done_ (done_of HT_.out (by as_aux_lemma => kernel_rfl)) ?_
    go_wp2
    go_ret
    exact ⟨rfl, κ', L', HLAY.out.1, HLAY.out.2, HS2.out⟩
def MW.wr (m : MW) (f : MFl) : Bool := ((m.books.find? fun b => decide (b.id = f.bk)).map MBk.write).getD false
theorem MW.ok.wr {m : MW} (h : m.ok) {f : MFl} {b : MBk} (hb : b ∈ m.books) (e : b.id = f.bk) : m.wr f = b.write := by
  unfold MW.wr
  cases hx : m.books.find? fun b => decide (b.id = f.bk) with
  | none => exact absurd (decide_eq_true e) (by simpa using List.find?_eq_none.1 hx b hb)
  | some c =>
    have h1 := List.find?_some hx
    have h2 := List.mem_of_find?_eq_some hx
    rw [h.id_inj h2 hb ((of_decide_eq_true h1).trans e.symm)]; rfl
theorem WAt.fw {κ : Nat → Tag} {L : Lay} {w : World} {m : MW} (h : WAt κ L w m) {f : MFl} (hf : f ∈ m.files) : w.cell? ⟨L.bk f.bk, 2, none⟩ = some (.bool (m.wr f)) := by
  obtain ⟨b, hb, e⟩ := h.ok.has f hf
  rw [h.ok.wr (f := f) hb e, ← e]
  exact (h.bc hb).1.2.2
def MW.mayW (m : MW) (f : MFl) : Bool := m.wr f && !decide (f.num = 1)
theorem mayw_walk {κ : Nat → Tag} {L : Lay} {m : MW} {f : MFl} (w : World) (h : WAt κ L w m) (hf : f ∈ m.files) (r : Bool) (hr : m.mayW f = r) : Calls Try.prog 42 #[pt (L.fl f.num)] w fun e w' => e = .returned (.int .i64 (if r then 0 else 31)) ∧ w = w' := by
  obtain ⟨z0, z1, z2, z3⟩ := (h.fc hf).1
  have t2 := h.fw hf
  unfold MW.mayW at hr
  subst hr
  clear h hf z2 z3
  generalize m.wr f = v at *
  generalize L.fl f.num = b at *
  generalize L.bk f.bk = g at *
  unfold pt
  cases v with
  | false =>
    go_enter Try.func42, Try.ntmps42
    go_wp2
    go_ret
    exact ⟨rfl, rfl⟩
  | true =>
    by_cases h1 : f.num = 1
    · rw [h1] at z0
      rw [decide_eq_true h1]
      go_enter Try.func42, Try.ntmps42
      go_wp2
      go_ret
      exact ⟨rfl, rfl⟩
    · rw [decide_eq_false h1]
      have h1' : ((f.num : Int) == 1) = false := beq_eq_false_iff_ne.2 (by omega)
      go_enter Try.func42, Try.ntmps42
      go_wp2
      go_ret
      exact ⟨rfl, rfl⟩
def MW.endF (m : MW) (f : MFl) (c : UInt8) : MW × Nat := if m.mayW f then m.writeF f c else (m, 31)
theorem end_walk {κ : Nat → Tag} {L : Lay} {m m' : MW} {f : MFl} (c : UInt8) (w : World) (h : WAt κ L w m) (hf : f ∈ m.files) (e : Nat) (hr : m.endF f c = (m', e)) :
    Calls Try.prog 48 #[pt (L.fl f.num), .int .u8 c.toNat] w fun x w' => x = .returned (.int .i64 e) ∧ ∃ κ' L', L'.p = L.p ∧ L'.fl = L.fl ∧ St κ w κ' L' w' m' := by
  obtain ⟨r, hmr⟩ : ∃ r, m.mayW f = r := ⟨_, rfl⟩
  have HMW := Aside0.mk (mayw_walk w h hf r hmr)
  have H := Aside0.mk h
  unfold MW.endF at hr
  rw [hmr] at hr
  unfold pt at *
  cases r with
  | false =>
    obtain ⟨rfl, rfl⟩ := Prod.mk.inj hr
    clear h hf hmr hr
    go_enter Try.func48, Try.ntmps48
    go_wp2_with (go_at_call 42; refine HMW.out.mono ?_; rintro e w' ⟨rfl, rfl⟩)
    go_ret
    exact ⟨rfl, κ, L, rfl, rfl, H.out.st⟩
  | true =>
    have HW := Aside0.mk (write_walk c w h hf e hr)
    unfold pt at HW
    clear h hf hmr hr
    go_enter Try.func48, Try.ntmps48
    go_wp2_with (go_at_call 42; refine HMW.out.mono ?_; rintro e w' ⟨rfl, rfl⟩)
    refine HW.out.mono ?_
    rintro x w2 ⟨rfl, hst⟩
    have HS := Aside0.mk hst
    clear hst
    go_wp2
    go_ret
    exact ⟨rfl, HS.out⟩
/-- the error of a file and an event -/
def MW.flagE (m : MW) (n ev evs : Int) : Int :=
  match m.file n with
  | none => 29
  | some _ => if ev < 0 ∨ evs ≤ ev then 1 else 0
def fileP (L : Lay) : Option MFl → Value
  | some f => pt (L.fl f.num)
  | none => .pointer none
theorem flagged_walk {κ : Nat → Tag} {L : Lay} {m : MW} (n ev evs : Int) (w : World) (h : WAt κ L w m) (p : Value) (e : Int) (hp : fileP L (m.file n) = p) (hr : m.flagE n ev evs = e) : Calls Try.prog 50 #[pt L.p, .int .i64 n, .int .i64 ev, .int .i64 evs] w fun x w' => x = .returned (.tuple #[p, .int .i64 e]) ∧ w = w' := by
  unfold MW.flagE at hr
  cases hfile : m.file n with
  | none =>
    have HF := Aside0.mk (file_none h hfile)
    rw [hfile] at hr hp
    subst hr
    subst hp
    clear h hfile
    unfold pt at *
    go_enter Try.func50, Try.ntmps50
    go_wp2_with (go_at_call 41; refine HF.out.mono ?_; rintro e w' ⟨rfl, rfl⟩)
    go_ret2
    exact ⟨rfl, rfl⟩
  | some f =>
    have HF := Aside0.mk (file_some h hfile)
    rw [hfile] at hr hp
    subst hp
    clear h hfile
    unfold fileP pt at *
    by_cases h0 : ev < 0
    · simp only [if_pos (Or.inl h0 : ev < 0 ∨ evs ≤ ev)] at hr
      subst hr
      go_enter Try.func50, Try.ntmps50
      go_wp2_with (go_at_call 41; refine HF.out.mono ?_; rintro e w' ⟨rfl, rfl⟩)
      go_ret2
      exact ⟨rfl, rfl⟩
    · by_cases h1 : evs ≤ ev
      · simp only [if_pos (Or.inr h1 : ev < 0 ∨ evs ≤ ev)] at hr
        subst hr
        go_enter Try.func50, Try.ntmps50
        go_wp2_with (go_at_call 41; refine HF.out.mono ?_; rintro e w' ⟨rfl, rfl⟩)
        go_ret2
        exact ⟨rfl, rfl⟩
      · simp only [if_neg (show ¬ (ev < 0 ∨ evs ≤ ev) by omega)] at hr
        subst hr
        go_enter Try.func50, Try.ntmps50
        go_wp2_with (go_at_call 41; refine HF.out.mono ?_; rintro e w' ⟨rfl, rfl⟩)
        go_ret2
        exact ⟨rfl, rfl⟩
def MW.flag (m : MW) (n ev : Int) : Bool × Int :=
  match m.file n with
  | none => (false, 29)
  | some f => if ev < 0 ∨ 6 ≤ ev then (false, 1) else (f.fl ev.toNat, 0)
theorem flag_walk {κ : Nat → Tag} {L : Lay} {m : MW} (n ev : Int) (w : World) (h : WAt κ L w m) (b : Bool) (e : Int) (hr : m.flag n ev = (b, e)) : Calls Try.prog 37 #[pt L.p, .int .i64 n, .int .i64 ev] w fun x w' => x = .returned (.tuple #[.bool b, .int .i64 e]) ∧ w = w' := by
  have HF := Aside0.mk (flagged_walk n ev 6 w h _ _ rfl rfl)
  unfold MW.flag at hr
  unfold MW.flagE at HF
  cases hfile : m.file n with
  | none =>
    rw [hfile] at hr HF
    obtain ⟨rfl, rfl⟩ := Prod.mk.inj hr
    clear h hfile
    unfold fileP pt at *
    go_enter Try.func37, Try.ntmps37
    go_wp2_with (go_at_call 50; refine HF.out.mono ?_; rintro e w' ⟨rfl, rfl⟩)
    go_ret2
    exact ⟨rfl, rfl⟩
  | some f =>
    have hf := (MW.file_mem hfile).1
    rw [hfile] at hr HF
    unfold fileP pt at *
    by_cases hb : ev < 0 ∨ 6 ≤ ev
    · simp only [if_pos hb] at hr HF
      obtain ⟨rfl, rfl⟩ := Prod.mk.inj hr
      clear h hfile
      go_enter Try.func37, Try.ntmps37
      go_wp2_with (go_at_call 50; refine HF.out.mono ?_; rintro e w' ⟨rfl, rfl⟩)
      go_ret2
      exact ⟨rfl, rfl⟩
    · simp only [if_neg hb] at hr HF
      obtain ⟨rfl, rfl⟩ := Prod.mk.inj hr
      obtain ⟨k, rfl⟩ : ∃ k : Nat, ev = k := ⟨ev.toNat, by omega⟩
      obtain ⟨z, _⟩ := h.flag hf k (by omega)
      rw [Int.toNat_natCast]
      have hk6 : k < 6 := by omega
      clear h hfile hb
      generalize f.fl k = v at *
      go_enter Try.func37, Try.ntmps37
      go_wp2_with (go_at_call 50; refine HF.out.mono ?_; rintro e w' ⟨rfl, rfl⟩)
      go_ret2
      exact ⟨rfl, rfl⟩
def calmMood (f : MFl) : Nat := if f.num = 2 then 2 else 0
theorem WAt.put3 {κ : Nat → Tag} {L : Lay} {w : World} {m : MW} (h : WAt κ L w m) {f : MFl} (hf : f ∈ m.files) (q : Nat) :
    St κ w κ L (w.setCell ⟨L.fl f.num, 3, none⟩ (.int .i64 q)) (m.setF { f with mood := q }) := by
  have hc := blk_put (h.hf f hf) 3 (.int .i64 (q : Int)) (cs' := L.fcells { f with mood := q }) rfl
  have ho : ∀ k, k ≠ L.fl f.num → (w.setCell ⟨L.fl f.num, 3, none⟩ (.int .i64 q)).heap[k]? = w.heap[k]? := fun k hk => Below.heap_setCell _ _ _ _ hk
  have hs : (w.setCell ⟨L.fl f.num, 3, none⟩ (.int .i64 q)).heap.size = w.heap.size := by simp [World.setCell]
  exact ⟨h.setF hf rfl rfl (h.ok.pos f hf).2 hc ho hs, Nx.set (g := L.fl f.num) (by rw [h.kf f hf]; exact Tag.noConfusion) rfl rfl rfl ho hs⟩
theorem calm_walk {κ : Nat → Tag} {L : Lay} {m : MW} {f : MFl} (w : World) (h : WAt κ L w m) (hf : f ∈ m.files) : Calls Try.prog 49 #[pt (L.fl f.num)] w fun e w' => e = .returned (.tuple #[]) ∧ St κ w κ L w' (m.setF { f with mood := calmMood f }) := by
  obtain ⟨z0, z1, z2, z3⟩ := (h.fc hf).1
  have f3 := (h.fc hf).2.2
  have h0 := h.put3 hf 0
  unfold calmMood
  by_cases h2 : f.num = 2
  · rw [if_pos h2]
    have h1 : St κ w κ L ((w.setCell ⟨L.fl f.num, 3, none⟩ (.int .i64 0)).setCell ⟨L.fl f.num, 3, none⟩ (.int .i64 2)) (m.setF { f with mood := 2 }) := by
      rw [← setF_setF m { f with mood := 0 } { f with mood := 2 } rfl]
      exact h0.then (h0.1.put3 (setF_mem hf rfl) 2)
    have H1 := Aside0.mk h1
    rw [h2] at z0
    clear h h1 h0 hf
    unfold pt
    generalize hb : L.fl f.num = b at *
    rw [h2] at hb
    rw [hb] at z0
    clear hb
    go_enter Try.func49, Try.ntmps49
    go_wp2
    go_end0
    exact ⟨rfl, H1.out⟩
  · rw [if_neg h2]
    have h2' : ((f.num : Int) == 2) = false := beq_eq_false_iff_ne.2 (by omega)
    have h2'' : ¬ ((f.num : Int) = 2) := by omega
    have H0 := Aside0.mk h0
    clear h h0 hf
    unfold pt
    generalize L.fl f.num = b at *
    go_enter Try.func49, Try.ntmps49
    go_wp2
    go_end0
    exact ⟨rfl, H0.out⟩
def MW.reset (m : MW) (n : Int) : MW × Int :=
  match m.file n with
  | none => (m, 29)
  | some f => (m.setF { f with pos := 0, mood := calmMood f }, 0)
theorem reset_walk {κ : Nat → Tag} {L : Lay} {m m' : MW} (n : Int) (w : World) (h : WAt κ L w m) (e : Int) (hr : m.reset n = (m', e)) : Calls Try.prog 15 #[pt L.p, .int .i64 n] w fun x w' => x = .returned (.int .i64 e) ∧ St κ w κ L w' m' := by
  have H := Aside0.mk h
  unfold MW.reset at hr
  cases hfile : m.file n with
  | none =>
    have HF := Aside0.mk (file_none h hfile)
    rw [hfile] at hr
    obtain ⟨rfl, rfl⟩ := Prod.mk.inj hr
    clear h hfile
    unfold pt
    go_enter Try.func15, Try.ntmps15
    go_wp2_with (go_at_call 41; refine HF.out.mono ?_; rintro e w' ⟨rfl, rfl⟩)
    go_ret
    exact ⟨rfl, H.out.st⟩
  | some f =>
    have HF := Aside0.mk (file_some h hfile)
    rw [hfile] at hr
    obtain ⟨rfl, rfl⟩ := Prod.mk.inj hr
    have hf := (MW.file_mem hfile).1
    obtain ⟨z0, z1, z2, z3⟩ := (h.fc hf).1
    have f2 := (h.fc hf).2.1
    have h1 : St κ w κ L (w.setCell ⟨L.fl f.num, 2, none⟩ (.int .i64 0)) (m.setF { f with pos := 0 }) := h.put2 hf 0 (Nat.zero_le _)
    have HC := Aside0.mk (calm_walk (f := { f with pos := 0 }) _ h1.1 (setF_mem hf rfl))
    rw [setF_setF m { f with pos := 0 } { f with pos := 0, mood := calmMood { f with pos := 0 } } rfl] at HC
    have H1 := Aside0.mk h1
    clear h h1 hf hfile hr
    unfold pt at *
    go_enter Try.func15, Try.ntmps15
    go_wp2_with (go_at_call 41; refine HF.out.mono ?_; rintro e w' ⟨rfl, rfl⟩)
    refine HC.out.mono ?_
    rintro x w2 ⟨rfl, hst⟩
    have H2 := Aside0.mk (H1.out.2.trans hst.2)
    have H3 := Aside0.mk hst.1
    clear hst
    go_wp2
    go_ret
    exact ⟨rfl, H3.out, H2.out⟩
/-- what Put writes, where all lets it -/
def putC (ch : Int) : UInt8 := if 32 ≤ ch ∧ ch ≤ 126 then UInt8.ofNat ch.toNat else 32
def MW.put (m : MW) (n ch : Int) : MW × Nat :=
  match m.file n with
  | none => (m, 29)
  | some f =>
    if m.mayW f = false then (m, 31) else
    if ¬ (32 ≤ ch ∧ ch ≤ 126) ∧ f.fl 4 = false then (m, 22) else
    if 200 ≤ min f.pos (m.text f).length - beginR (m.text f) (min f.pos (m.text f).length) then
      if f.fl 2 = false then (m, 22) else
      if 1048576 < min f.pos (m.text f).length + 2 then (m, 30) else
      (m.writeF f 10).1.writeF { f with pos := min f.pos (m.text f).length + 1, mood := 2 } (putC ch)
    else m.writeF f (putC ch)
theorem putC_nat (ch : Int) : ((putC ch).toNat : Int) = if 32 ≤ ch ∧ ch ≤ 126 then ch else 32 := by
  unfold putC
  split <;> rename_i h
  · have h1 : ch.toNat < 256 := by omega
    rw [UInt8.toNat_ofNat_of_lt' h1]
    omega
  · rfl
/-- behind the tests of the file, its book and the character -/
theorem put_walk {κ : Nat → Tag} {L : Lay} {m m' : MW} (n ch : Int) (w : World) (h : WAt κ L w m) (e : Nat) (hr : m.put n ch = (m', e)) :
    Calls Try.prog 13 #[pt L.p, .int .i64 n, .int .i64 ch] w fun x w' => x = .returned (.int .i64 e) ∧ ∃ κ' L', L'.p = L.p ∧ St κ w κ' L' w' m' := by
  have H := Aside0.mk h
  unfold MW.put at hr
  unfold pt
  cases hfile : m.file n with
  | none =>
    have HF := Aside0.mk (file_none h hfile)
    rw [hfile] at hr
    obtain ⟨rfl, rfl⟩ := Prod.mk.inj hr
    clear h hfile
    go_enter Try.func13, Try.ntmps13
    go_wp2_with (go_at_call 41; refine HF.out.mono ?_; rintro e w' ⟨rfl, rfl⟩)
    go_ret
    exact ⟨rfl, κ, L, rfl, H.out.st⟩
  | some f =>
    have HF := Aside0.mk (file_some h hfile)
    rw [hfile] at hr
    have hf := (MW.file_mem hfile).1
    have HM := Aside0.mk hf
    simp only [] at hr
    obtain ⟨r, hmr⟩ : ∃ r, m.mayW f = r := ⟨_, rfl⟩
    have HMW := Aside0.mk (mayw_walk w h hf r hmr)
    rw [hmr] at hr
    unfold pt at HMW
    cases r with
    | false =>
      rw [if_pos rfl] at hr
      obtain ⟨rfl, rfl⟩ := Prod.mk.inj hr
      clear h hfile hf hmr
      go_enter Try.func13, Try.ntmps13
      go_wp2_with (first | (go_at_call 41; refine HF.out.mono ?_; rintro e w' ⟨rfl, rfl⟩) | (go_at_call 42; refine HMW.out.mono ?_; rintro e w' ⟨rfl, rfl⟩))
      go_ret
      exact ⟨rfl, κ, L, rfl, H.out.st⟩
    | true =>
      rw [if_neg (by decide)] at hr
      have HPL := Aside0.mk (plain_walk ch w)
      have HT4 := Aside0.mk (tell_walk 4 w h hf (by omega))
      have HT2 := Aside0.mk (fun (w1 : World) (hr : Rd w w1) => tell_walk 2 w1 (h.below hr.below) hf (by omega))
      have HP := Aside0.mk (fun (w1 : World) (hr : Rd w w1) => place_walk w1 (h.below hr.below) hf)
      have HG := Aside0.mk (fun (w1 : World) (hr : Rd w w1) => begin_walk w1 (h.below hr.below) hf _ rfl)
      unfold pt at HT4 HT2 HP HG
      have hkk : min f.pos (m.text f).length ≤ 1048576 := Nat.le_trans (Nat.min_le_left _ _) (h.ok.pos f hf).2
      have hbl := beginR_le (m.text f) (min f.pos (m.text f).length)
      obtain ⟨c, hc⟩ : ∃ c, putC ch = c := ⟨_, rfl⟩
      have hcn := putC_nat ch
      rw [hc] at hr hcn
      obtain ⟨pb, hpb⟩ : ∃ pb, decide (32 ≤ ch ∧ ch ≤ 126) = pb := ⟨_, rfl⟩
      rw [hpb] at HPL
      obtain ⟨ch', e1, hch', he1, hr2⟩ : ∃ (ch' e1 : Int), ch' = (if 32 ≤ ch ∧ ch ≤ 126 then ch else 32) ∧ e1 = (if pb = false ∧ f.fl 4 = false then 22 else 0) ∧
          (if e1 ≠ 0 then (m, 22) else if 200 ≤ min f.pos (m.text f).length - beginR (m.text f) (min f.pos (m.text f).length) then
            if f.fl 2 = false then (m, 22) else if 1048576 < min f.pos (m.text f).length + 2 then (m, 30) else (m.writeF f 10).1.writeF { f with pos := min f.pos (m.text f).length + 1, mood := 2 } c
          else m.writeF f c) = (m', e) := by
        refine ⟨_, _, rfl, rfl, ?_⟩
        rw [← hr]
        by_cases hbad : ¬ (32 ≤ ch ∧ ch ≤ 126) ∧ f.fl 4 = false
        · have : pb = false := by rw [← hpb]; exact decide_eq_false hbad.1
          have he : (if pb = false ∧ f.fl 4 = false then (22 : Int) else 0) = 22 := if_pos ⟨this, hbad.2⟩
          rw [he, if_pos hbad]; rfl
        · have : ¬ (pb = false ∧ f.fl 4 = false) := fun hq => hbad ⟨of_decide_eq_false (hpb.trans hq.1), hq.2⟩
          have he : (if pb = false ∧ f.fl 4 = false then (22 : Int) else 0) = 0 := if_neg this
          rw [he, if_neg hbad]; rfl
      rw [← hch'] at hcn
      have HR := Aside0.mk hr2
      have HCH := Aside0.mk hch'
      have HE1 := Aside0.mk he1
      have HPB := Aside0.mk hpb
      have HCN := Aside0.mk hcn
      obtain ⟨k, hk⟩ : ∃ k, min f.pos (m.text f).length = k := ⟨_, rfl⟩
      rw [hk] at HP HG HR hkk hbl
      obtain ⟨kb, hkb⟩ : ∃ kb, beginR (m.text f) k = kb := ⟨_, rfl⟩
      rw [hkb] at HG HR hbl
      have HK := Aside0.mk hk
      clear hfile hmr hc hr hr2 hch' he1 hcn hpb h hf hk hkb
      go_enter Try.func13, Try.ntmps13
      go_wp2_with fail
      refine HF.out.mono ?_
      rintro x w' ⟨rfl, rfl⟩
      go_wp2_with fail
      refine HMW.out.mono ?_
      rintro x w' ⟨rfl, rfl⟩
      go_wp2_with fail
      refine HPL.out.mono ?_
      rintro x w' ⟨rfl, rfl⟩
      go_upto_if 26 with fail
      go_cut [2, 8] (fun s2 s8 wx => s2 = .int .i64 ch' ∧ s8 = .int .i64 e1 ∧ wx = w)
      case first =>
        cases pb with
        | true =>
          obtain rfl : ch' = ch := by rw [HCH.out, if_pos (of_decide_eq_true HPB.out)]
          obtain rfl : e1 = 0 := by rw [HE1.out]; rfl
          go_wp2
          go_meet
          exact ⟨rfl, rfl, rfl⟩
        | false =>
          obtain rfl : ch' = 32 := by rw [HCH.out, if_neg (of_decide_eq_false HPB.out)]
          cases hfl : f.fl 4 with
          | true =>
            obtain rfl : e1 = 0 := by rw [HE1.out, hfl]; rfl
            rw [hfl] at HT4
            go_wp2_with fail
            refine HT4.out.mono ?_
            rintro x w' ⟨rfl, rfl⟩
            go_wp2
            go_meet
            exact ⟨rfl, rfl, rfl⟩
          | false =>
            obtain rfl : e1 = 22 := by rw [HE1.out, hfl]; rfl
            rw [hfl] at HT4
            go_wp2_with fail
            refine HT4.out.mono ?_
            rintro x w' ⟨rfl, rfl⟩
            go_wp2
            go_meet
            exact ⟨rfl, rfl, rfl⟩
      case rest =>
        obtain ⟨rfl, rfl, rfl⟩ := hcut
        have h01 : e1 = 22 ∨ e1 = 0 := by
          rw [HE1.out]; split
          · exact .inl rfl
          · exact .inr rfl
        clear HE1 HCH HPB HPL HT4 HMW HF
        rcases h01 with rfl | rfl
        · obtain ⟨rfl, rfl⟩ : m = m' ∧ 22 = e := Prod.mk.inj HR.out
          clear HR
          go_wp2
          go_ret
          exact ⟨rfl, κ, L, rfl, H.out.st⟩
        · have HR2 : Aside0 ((if 200 ≤ k - kb then if f.fl 2 = false then (m, 22) else if 1048576 < k + 2 then (m, 30) else (m.writeF f 10).1.writeF { f with pos := k + 1, mood := 2 } c else m.writeF f c) = (m', e)) := ⟨HR.out⟩
          clear HR
          go_wp2_with fail
          refine (HP.out _ (Rd.refl _)).mono ?_
          rintro x w1 ⟨rfl, hr1⟩
          go_wp2_with fail
          refine (HG.out _ hr1).mono ?_
          rintro x w2 ⟨rfl, hr2⟩
          have HRD := Aside0.mk (hr1.trans hr2)
          clear hr1 hr2
          by_cases hfull : 200 ≤ k - kb
          · have hd : decide ((200 : Int) ≤ (k : Int) - (kb : Int)) = true := decide_eq_true (by omega)
            have HR3 := Aside0.mk HR2.out
            rw [if_pos hfull] at HR3
            clear HR2 hfull
            go_wp2_with fail
            refine (HT2.out _ HRD.out).mono ?_
            rintro x w3 ⟨rfl, rfl⟩
            cases hfl : f.fl 2 with
            | false =>
              rw [hfl] at HR3
              obtain ⟨rfl, rfl⟩ : m = m' ∧ 22 = e := Prod.mk.inj HR3.out
              clear HR3
              go_wp2
              go_ret
              exact ⟨rfl, κ, L, rfl, (H.out.below HRD.out.below), Below.nx _ HRD.out.below⟩
            | true =>
              rw [hfl, if_neg (by decide)] at HR3
              go_wp2_with fail
              refine (HP.out _ HRD.out).mono ?_
              rintro x w4 ⟨rfl, hr4⟩
              have HRD4 := Aside0.mk (HRD.out.trans hr4)
              clear hr4
              by_cases hbig : 1048576 < k + 2
              · have hd2 : decide ((1048576 : Int) < (k : Int) + 2) = true := decide_eq_true (by omega)
                rw [if_pos hbig] at HR3
                obtain ⟨rfl, rfl⟩ : m = m' ∧ 30 = e := Prod.mk.inj HR3.out
                clear HR3 hbig
                go_wp2
                go_ret
                exact ⟨rfl, κ, L, rfl, (H.out.below HRD4.out.below), Below.nx _ HRD4.out.below⟩
              · have hd2 : decide ((1048576 : Int) < (k : Int) + 2) = false := decide_eq_false (by omega)
                rw [if_neg hbig] at HR3
                have hw1 : m.writeF f 10 = ((m.setT f.bk ((m.text f).take k ++ [10])).setF { f with pos := k + 1, mood := 2 }, 0) := by
                  unfold MW.writeF
                  rw [HK.out, if_neg (by omega)]
                rw [hw1] at HR3
                have HW := Aside0.mk (write_walk 10 w4 (H.out.below HRD4.out.below) HM.out 0 hw1)
                have HM1 : Aside0 ({ f with pos := k + 1, mood := 2 } ∈ ((m.setT f.bk ((m.text f).take k ++ [10])).setF { f with pos := k + 1, mood := 2 }).files) := ⟨setF_mem (m := m.setT f.bk ((m.text f).take k ++ [10])) (f := f) HM.out rfl⟩
                unfold pt at HW
                clear hbig hw1
                go_wp2_with fail
                refine HW.out.mono ?_
                rintro x w5 ⟨rfl, κ5, L5, hp5, hfl5, hst5⟩
                have HW2 := Aside0.mk (write_walk c w5 hst5.1 HM1.out e HR3.out)
                have HS5 := Aside0.mk hst5
                have hcc : c.toNat ≤ 255 := by have := c.toNat_lt; omega
                obtain rfl := HCN.out
                unfold pt at HW2
                clear hst5
                rw [hfl5] at HW2
                go_wp2_with fail
                refine HW2.out.mono ?_
                rintro x w6 ⟨rfl, κ6, L6, hp6, hfl6, hst6⟩
                have HS6 := Aside0.mk ((HS5.out.then hst6))
                have hpp := hp6.trans hp5
                clear hst6 HS5 HW2 HW
                go_wp2
                go_ret
                exact ⟨rfl, κ6, L6, hpp, HS6.out.1, (Below.nx _ HRD4.out.below).trans HS6.out.2⟩
          · have hd : decide ((200 : Int) ≤ (k : Int) - (kb : Int)) = false := decide_eq_false (by omega)
            have HR3 := Aside0.mk HR2.out
            rw [if_neg hfull] at HR3
            have HW := Aside0.mk (write_walk c w2 (H.out.below HRD.out.below) HM.out e HR3.out)
            have hcc : c.toNat ≤ 255 := by have := c.toNat_lt; omega
            obtain rfl := HCN.out
            unfold pt at HW
            clear HR2 hfull HR3
            go_wp2_with fail
            refine HW.out.mono ?_
            rintro x w5 ⟨rfl, κ5, L5, hp5, hfl5, hst5⟩
            have HS5 := Aside0.mk hst5
            clear hst5 HW
            go_wp2
            go_ret
            exact ⟨rfl, κ5, L5, hp5, HS5.out.1, (Below.nx _ HRD.out.below).trans HS5.out.2⟩
def nlR (fl : Nat → Bool) : List UInt8 → Nat → Nat × Nat
  | [], _ => (0, 22)
  | c :: r, i => if c.toNat = 12 then (if fl 1 then (i + 1, 0) else (0, 22)) else if c.toNat = 10 then (i + 1, 0) else nlR fl r (i + 1)
def MW.newline (m : MW) (n : Int) : MW × Nat :=
  match m.file n with
  | none => (m, 29)
  | some f => if f.mood = 2 then m.endF f 10 else
    if (nlR f.fl ((m.text f).drop f.pos) f.pos).2 = 0 then (m.setF { f with pos := (nlR f.fl ((m.text f).drop f.pos) f.pos).1 }, 0) else (m, (nlR f.fl ((m.text f).drop f.pos) f.pos).2)
theorem newline_walk {κ : Nat → Tag} {L : Lay} {m m' : MW} (n : Int) (w : World) (h : WAt κ L w m) (e : Nat) (hr : m.newline n = (m', e)) :
    Calls Try.prog 14 #[pt L.p, .int .i64 n] w fun x w' => x = .returned (.int .i64 e) ∧ ∃ κ' L', L'.p = L.p ∧ St κ w κ' L' w' m' := by
  have H := Aside0.mk h
  unfold MW.newline at hr
  unfold pt
  cases hfile : m.file n with
  | none =>
    have HF := Aside0.mk (file_none h hfile)
    rw [hfile] at hr
    obtain ⟨rfl, rfl⟩ := Prod.mk.inj hr
    clear h hfile
    go_enter Try.func14, Try.ntmps14
    go_wp2_with (go_at_call 41; refine HF.out.mono ?_; rintro e w' ⟨rfl, rfl⟩)
    go_ret
    exact ⟨rfl, κ, L, rfl, H.out.st⟩
  | some f =>
    have HF := Aside0.mk (file_some h hfile)
    rw [hfile] at hr
    have hf := (MW.file_mem hfile).1
    have HM := Aside0.mk hf
    obtain ⟨z0, z1, z2, z3⟩ := (h.fc hf).1
    simp only [] at hr
    by_cases hmood : f.mood = 2
    · rw [if_pos hmood] at hr
      have HE := Aside0.mk (end_walk 10 w h hf e hr)
      rw [hmood] at z3
      unfold pt at HE
      clear h hfile hr hf
      go_enter Try.func14, Try.ntmps14
      go_wp2_with fail
      refine HF.out.mono ?_
      rintro x w' ⟨rfl, rfl⟩
      go_wp2_with fail
      refine HE.out.mono ?_
      rintro x w2 ⟨rfl, κ', L', hp, hfl, hst⟩
      have HS := Aside0.mk hst
      clear hst
      go_wp2
      go_ret
      exact ⟨rfl, κ', L', hp, HS.out⟩
    · rw [if_neg hmood] at hr
      have hmood' : ¬ ((f.mood : Int) = 2) := by omega
      have hp0 := (h.ok.pos f hf).2
      have f2 := (h.fc hf).2.1
      have HT1 := Aside0.mk (tell_walk 1 w h hf (by omega))
      obtain ⟨g, a, cap, hg, hkg, t1, hl, hcl, hcm, hQ⟩ := h.ft hf
      rw [hg] at z1
      have HQ := Aside0.mk hQ
      have HPUT := Aside0.mk (fun (p : Nat) (hp : p ≤ 1048576) => h.put2 hf p hp)
      obtain ⟨R, hR⟩ : ∃ R, nlR f.fl ((m.text f).drop f.pos) f.pos = R := ⟨_, rfl⟩
      rw [hR] at hr
      have HR := Aside0.mk hr
      have HNL := Aside0.mk hR
      clear h hfile hr hf hR hg hkg hQ hcl hcm hmood
      unfold pt at *
      generalize hfb : L.fl f.num = b at *
      clear hfb
      generalize m.text f = t at *
      go_enter Try.func14, Try.ntmps14
      go_wp2_with fail
      refine HF.out.mono ?_
      rintro x w' ⟨rfl, rfl⟩
      go_wp2_with fail
      go_loop [7] (fun i => ∃ k : Nat, i = .int .i64 k ∧ k ≤ 1048576 ∧ Aside0 (nlR f.fl (t.drop k) k = R)) (fun i => 1048576 - (intOf i).toNat)
      case atStart => exact ⟨f.pos, rfl, hp0, HNL⟩
      case round =>
        obtain ⟨k, rfl, hk, HN⟩ := hrel
        by_cases hlt : k < t.length
        · obtain ⟨q, rfl, _, hc⟩ := HQ.out k hlt
          have hd : t.drop k = t[k] :: t.drop (k + 1) := List.drop_eq_getElem_cons hlt
          rw [hd] at HN
          clear hd
          generalize t[k] = c at *
          have hc0 : c.toNat ≤ 255 := by have := c.toNat_lt; omega
          unfold nlR at HN
          generalize c.toNat = d at *
          by_cases h12 : d = 12
          · subst h12
            rw [if_pos rfl] at HN
            cases hfl : f.fl 1 with
            | true =>
              rw [hfl] at HN HT1
              obtain rfl : (k + 1, 0) = R := by have := HN.out; simpa using this
              obtain ⟨rfl, rfl⟩ : m.setF { f with pos := k + 1 } = m' ∧ 0 = e := Prod.mk.inj HR.out
              have HP := Aside0.mk (HPUT.out (k + 1) (by omega))
              go_wp2_with (go_at_call 44; refine HT1.out.mono ?_; rintro e w' ⟨rfl, rfl⟩)
              go_ret
              exact ⟨rfl, κ, L, rfl, HP.out⟩
            | false =>
              rw [hfl] at HN HT1
              obtain rfl : (0, 22) = R := by have := HN.out; simpa using this
              obtain ⟨rfl, rfl⟩ : m = m' ∧ 22 = e := Prod.mk.inj HR.out
              go_wp2_with (go_at_call 44; refine HT1.out.mono ?_; rintro e w' ⟨rfl, rfl⟩)
              go_ret
              exact ⟨rfl, κ, L, rfl, H.out.st⟩
          · have h12' : ¬ ((d : Int) = 12) := by omega
            rw [if_neg h12] at HN
            by_cases h10 : d = 10
            · subst h10
              rw [if_pos rfl] at HN
              obtain rfl : (k + 1, 0) = R := by have := HN.out; simpa using this
              obtain ⟨rfl, rfl⟩ : m.setF { f with pos := k + 1 } = m' ∧ 0 = e := Prod.mk.inj HR.out
              have HP := Aside0.mk (HPUT.out (k + 1) (by omega))
              go_wp2
              go_ret
              exact ⟨rfl, κ, L, rfl, HP.out⟩
            · have h10' : ¬ ((d : Int) = 10) := by omega
              rw [if_neg h10] at HN
              go_wp2
              go_round
              case rel => exact ⟨k + 1, by go_num, by omega, HN⟩
              case measure => simp [intOf]; omega
        · have hd : t.drop k = [] := List.drop_eq_nil_of_le (by omega)
          rw [hd] at HN
          obtain rfl : (0, 22) = R := by have := HN.out; simpa [nlR] using this
          obtain ⟨rfl, rfl⟩ : m = m' ∧ 22 = e := Prod.mk.inj HR.out
          clear hd
          go_wp2
          go_ret
          exact ⟨rfl, κ, L, rfl, H.out.st⟩
def MW.ended (m : MW) (n ev : Int) : Bool × Int :=
  match m.file n with
  | none => (false, 29)
  | some f => if ev < 0 ∨ 3 ≤ ev then (false, 1) else
    if (m.text f).length ≤ f.pos then (true, 0) else
    (decide (ev = 1 ∧ ((m.text f).getD f.pos 0).toNat = 12 ∨ ev = 2 ∧ (((m.text f).getD f.pos 0).toNat = 12 ∨ ((m.text f).getD f.pos 0).toNat = 10)), 0)
theorem ended_walk {κ : Nat → Tag} {L : Lay} {m : MW} (n ev : Int) (w : World) (h : WAt κ L w m) (b : Bool) (e : Int) (hr : m.ended n ev = (b, e)) : Calls Try.prog 17 #[pt L.p, .int .i64 n, .int .i64 ev] w fun x w' => x = .returned (.tuple #[.bool b, .int .i64 e]) ∧ Rd w w' := by
  have HF := Aside0.mk (flagged_walk n ev 3 w h _ _ rfl rfl)
  unfold MW.ended at hr
  unfold MW.flagE at HF
  cases hfile : m.file n with
  | none =>
    rw [hfile] at hr HF
    obtain ⟨rfl, rfl⟩ := Prod.mk.inj hr
    clear h hfile
    unfold fileP pt at *
    go_enter Try.func17, Try.ntmps17
    go_wp2_with (go_at_call 50; refine HF.out.mono ?_; rintro e w' ⟨rfl, rfl⟩)
    go_ret2
    exact ⟨rfl, Rd.refl _⟩
  | some f =>
    have hf := (MW.file_mem hfile).1
    rw [hfile] at hr HF
    unfold fileP pt at *
    by_cases hb : ev < 0 ∨ 3 ≤ ev
    · simp only [if_pos hb] at hr HF
      obtain ⟨rfl, rfl⟩ := Prod.mk.inj hr
      clear h hfile
      go_enter Try.func17, Try.ntmps17
      go_wp2_with (go_at_call 50; refine HF.out.mono ?_; rintro e w' ⟨rfl, rfl⟩)
      go_ret2
      exact ⟨rfl, Rd.refl _⟩
    · simp only [if_neg hb] at hr HF
      obtain ⟨z0, z1, z2, z3⟩ := (h.fc hf).1
      obtain ⟨g, a, cap, hg, hkg, t1, hl, hcl, hcm, hQ⟩ := h.ft hf
      rw [hg] at z1
      have HQ := Aside0.mk hQ
      have hp0 := (h.ok.pos f hf).2
      have hev : ev = 0 ∨ ev = 1 ∨ ev = 2 := by omega
      clear h hfile hf hg hkg hQ hcl hcm hb z3 z0
      generalize m.text f = t at *
      generalize f.pos = p at *
      generalize hfb : L.fl f.num = fb at *
      clear hfb
      by_cases hend : t.length ≤ p
      · rw [if_pos hend] at hr
        obtain ⟨rfl, rfl⟩ := Prod.mk.inj hr
        have hd : decide ((t.length : Int) ≤ (p : Int)) = true := decide_eq_true (by omega)
        go_enter Try.func17, Try.ntmps17
        go_wp2_with (go_at_call 50; refine HF.out.mono ?_; rintro e w' ⟨rfl, rfl⟩)
        go_quiet (fail)
        go_wp2
        go_ret2
        exact ⟨rfl, ⟨_, rfl⟩⟩
      · rw [if_neg hend] at hr
        obtain ⟨q, rfl, _, hc⟩ := HQ.out p (by omega)
        have hgd : t.getD p 0 = t[p]'(by omega) := by rw [List.getD_eq_getElem?_getD, List.getElem?_eq_getElem (by omega)]; rfl
        rw [hgd] at hr
        clear hgd
        generalize t[p]'(by omega) = c at *
        have hc0 : c.toNat ≤ 255 := by have := c.toNat_lt; omega
        generalize c.toNat = d at *
        obtain ⟨rfl, rfl⟩ := Prod.mk.inj hr
        have hd : decide ((t.length : Int) ≤ (p : Int)) = false := decide_eq_false (by omega)
        have hlt : (p : Int) < (t.length : Int) := by omega
        have hcases : (d = 12 ∧ ((d : Int) == 12) = true ∧ ((d : Int) == 10) = false) ∨ (d = 10 ∧ ((d : Int) == 12) = false ∧ ((d : Int) == 10) = true) ∨ (¬ d = 12 ∧ ¬ d = 10 ∧ ((d : Int) == 12) = false ∧ ((d : Int) == 10) = false) := by
          by_cases h1 : d = 12
          · exact .inl ⟨h1, by rw [h1]; rfl, by rw [h1]; rfl⟩
          · by_cases h2 : d = 10
            · exact .inr (.inl ⟨h2, by rw [h2]; rfl, by rw [h2]; rfl⟩)
            · exact .inr (.inr ⟨h1, h2, beq_eq_false_iff_ne.2 (by omega), beq_eq_false_iff_ne.2 (by omega)⟩)
        rcases hev with rfl | rfl | rfl <;> rcases hcases with ⟨rfl, h12, h10⟩ | ⟨rfl, h12, h10⟩ | ⟨n12, n10, h12, h10⟩
        all_goals
          go_enter Try.func17, Try.ntmps17
          go_wp2_with (go_at_call 50; refine HF.out.mono ?_; rintro e w' ⟨rfl, rfl⟩)
          go_quiet (fail)
          go_wp2
          go_quiet (fail)
          go_wp2
          go_ret2
          exact ⟨by first | rfl | simp_all, by first | exact ⟨_, rfl⟩ | exact Rd.trans ⟨_, rfl⟩ ⟨_, rfl⟩⟩
def MW.establish (m : MW) (s : ByteArray) : MW × Int × Int :=
  if namedB s = false then (m, 0, 8) else
  match m.find s with
  | some _ => (m, 0, 5)
  | none =>
    if 64 ≤ m.books.length then (m, 0, 3) else
    if 20 ≤ m.files.length then (m, 0, 30) else
    ((m.addB s [] true).addF m.next, (m.addB s [] true).addN, 0)
theorem establish_walk {κ : Nat → Tag} {L : Lay} {m m' : MW} (s : ByteArray) (w : World) (hs : s.size ≤ 9223372036854775807) (h : WAt κ L w m) (n e : Int) (hr : m.establish s = (m', n, e)) :
    Calls Try.prog 12 #[pt L.p, .string s] w fun x w' => x = .returned (.tuple #[.int .i64 n, .int .i64 e]) ∧ ∃ κ' L', L'.p = L.p ∧ St κ w κ' L' w' m' := by
  have H := Aside0.mk h
  obtain ⟨nb, hnb⟩ : ∃ nb, namedB s = nb := ⟨_, rfl⟩
  have HNM := Aside0.mk (named_walk s w hs nb hnb)
  unfold MW.establish at hr
  rw [hnb] at hr
  have HFI := Aside0.mk (fun (w1 : World) (hb : Below w.heap.size w w1) => find_walk s w1 (h.below hb) _ rfl)
  have hbs := h.ok.bs
  have hfs := h.ok.fs
  have hfl : ∃ a cap, L.vf = .slice a m.files.length cap := by
    rcases row_cases h.rf with ⟨h1, h2⟩ | ⟨g, cap, h1, _⟩
    · exact ⟨none, 0, by rw [h1, h2]⟩
    · exact ⟨_, cap, h1⟩
  have hbl : ∃ a cap, L.vb = .slice a m.books.length cap := by
    rcases row_cases h.rb with ⟨h1, h2⟩ | ⟨g, cap, h1, _⟩
    · exact ⟨none, 0, by rw [h1, h2]⟩
    · exact ⟨_, cap, h1⟩
  obtain ⟨af, cf, hvf⟩ := hfl
  obtain ⟨ab, cb, hvb⟩ := hbl
  obtain ⟨pa, hpa⟩ : ∃ pa, findV L (m.find s) = .pointer pa := by cases m.find s <;> exact ⟨_, rfl⟩
  rw [hpa] at HFI
  unfold pt at *
  cases nb with
  | false =>
    obtain ⟨rfl, rfl, rfl⟩ : m = m' ∧ 0 = n ∧ 8 = e := by simpa using hr
    clear h hr hpa hnb
    go_enter Try.func12, Try.ntmps12
    go_wp2_with fail
    refine HNM.out.mono ?_
    rintro x w1 ⟨rfl, hb⟩
    have HB := Aside0.mk hb
    clear hb
    go_wp2
    go_ret2
    exact ⟨rfl, κ, L, rfl, H.out.below HB.out, Below.nx _ HB.out⟩
  | true =>
    rw [if_neg (by decide)] at hr
    cases hfind : m.find s with
    | some b =>
      rw [hfind] at hr hpa
      obtain rfl : some ⟨L.bk b.id, 0, none⟩ = pa := Value.pointer.inj hpa
      obtain ⟨rfl, rfl, rfl⟩ : m = m' ∧ 0 = n ∧ 5 = e := by simpa using hr
      clear h hr hpa hnb hfind
      go_enter Try.func12, Try.ntmps12
      go_wp2_with fail
      refine HNM.out.mono ?_
      rintro x w1 ⟨rfl, hb⟩
      have HB := Aside0.mk hb
      clear hb
      go_wp2_with fail
      refine (HFI.out _ HB.out).mono ?_
      rintro x w2 ⟨rfl, rfl⟩
      go_wp2
      go_ret2
      exact ⟨rfl, κ, L, rfl, H.out.below HB.out, Below.nx _ HB.out⟩
    | none =>
      rw [hfind] at hr hpa
      obtain rfl : none = pa := Value.pointer.inj hpa
      simp only [] at hr
      by_cases h64 : 64 ≤ m.books.length
      · rw [if_pos h64] at hr
        obtain ⟨rfl, rfl, rfl⟩ : m = m' ∧ 0 = n ∧ 3 = e := by simpa using hr
        have h64' : decide ((64 : Int) ≤ (m.books.length : Int)) = true := decide_eq_true (by omega)
        clear h hr hpa hnb hfind
        go_enter Try.func12, Try.ntmps12
        go_wp2_with fail
        refine HNM.out.mono ?_
        rintro x w1 ⟨rfl, hb⟩
        have HB := Aside0.mk hb
        clear hb
        go_wp2_with fail
        refine (HFI.out _ HB.out).mono ?_
        rintro x w2 ⟨rfl, rfl⟩
        obtain ⟨⟨z0, z1⟩, _, _⟩ := (H.out.below HB.out).head
        rw [hvb] at z0
        rw [hvf] at z1
        go_wp2
        go_ret2
        exact ⟨rfl, κ, L, rfl, H.out.below HB.out, Below.nx _ HB.out⟩
      · rw [if_neg h64] at hr
        have h64' : decide ((64 : Int) ≤ (m.books.length : Int)) = false := decide_eq_false (by omega)
        by_cases h20 : 20 ≤ m.files.length
        · rw [if_pos h20] at hr
          obtain ⟨rfl, rfl, rfl⟩ : m = m' ∧ 0 = n ∧ 30 = e := by simpa using hr
          have h20' : decide ((20 : Int) ≤ (m.files.length : Int)) = true := decide_eq_true (by omega)
          clear h hr hpa hnb hfind
          go_enter Try.func12, Try.ntmps12
          go_wp2_with fail
          refine HNM.out.mono ?_
          rintro x w1 ⟨rfl, hb⟩
          have HB := Aside0.mk hb
          clear hb
          go_wp2_with fail
          refine (HFI.out _ HB.out).mono ?_
          rintro x w2 ⟨rfl, rfl⟩
          obtain ⟨⟨z0, z1⟩, _, _⟩ := (H.out.below HB.out).head
          rw [hvb] at z0
          rw [hvf] at z1
          go_wp2
          go_ret2
          exact ⟨rfl, κ, L, rfl, H.out.below HB.out, Below.nx _ HB.out⟩
        · rw [if_neg h20] at hr
          have h20' : decide ((20 : Int) ≤ (m.files.length : Int)) = false := decide_eq_false (by omega)
          obtain ⟨rfl, rfl, rfl⟩ : (m.addB s [] true).addF m.next = m' ∧ ((m.addB s [] true).addN : Int) = n ∧ 0 = e := by simpa using hr
          clear h hr hpa hnb hfind
          go_enter Try.func12, Try.ntmps12
          go_wp2_with fail
          refine HNM.out.mono ?_
          rintro x w1 ⟨rfl, hb⟩
          have H1 := Aside0.mk (H.out.st.below hb)
          have HB := Aside0.mk hb
          clear hb
          go_wp2_with fail
          refine (HFI.out _ HB.out).mono ?_
          rintro x w2 ⟨rfl, rfl⟩
          obtain ⟨⟨z0, z1⟩, _, _⟩ := (H1.out.1).head
          obtain ⟨g, cap1, WE, κ', L', hrun, ⟨zE, fE⟩, hLp, hst⟩ := std_add s true H1.out.1 (by omega)
          have hplt : L.p < w1.heap.size := block_lt_of_cell z0
          have hpne : L.p ≠ w1.heap.size := by omega
          have HRUN := Aside0.mk hrun
          have HE := Aside0.mk (H1.out.then hst)
          have hvb' := hvb
          rw [hvf] at z1
          have hlen0 := Aside0.mk hvb
          have z0' := z0
          rw [hvb] at z0' zE HRUN
          clear hrun hst hvb hvb' z0
          go_wp2_with (at_builtin; refine Lib.wpList_append_run _ rfl _ _ _ _ rfl _ _ rfl rfl _ _ HRUN.out ?_)
          have hmemb : (⟨m.next, s, [], true⟩ : MBk) ∈ (m.addB s [] true).books := List.mem_append_right _ (List.mem_singleton.2 rfl)
          have HA := Aside0.mk (add_walk _ HE.out.1 hmemb (show m.files.length < 20 by omega))
          have hmem := Aside0.mk (addF_mem HE.out.1.ok m.next)
          unfold pt at HA
          rw [show L'.bk (⟨m.next, s, [], true⟩ : MBk).id = w1.heap.size from hLp.2, hLp.1] at HA
          clear zE fE HRUN z1 z0'
          refine HA.out.mono ?_
          rintro x w3 ⟨κ3, L3, hp3, _, _, _, rfl, hst⟩
          have HS := Aside0.mk (HE.out.then hst)
          have zn : w3.cell? ⟨L3.fl (m.addB s [] true).addN, 0, none⟩ = some (.int .i64 (m.addB s [] true).addN) := (hst.1.fc hmem.out).1.1
          clear hst HA
          go_wp2
          go_ret2
          exact ⟨rfl, κ3, L3, hp3, HS.out⟩
def bo_T : Bool × List (List Nat × List Nat) := (true, [([], []), ([], []), ([1], [1]), ([2], [2]), ([3], [3]), ([], []), ([5], [5]), ([6], [6]), ([7], [7]), ([8], [8]), ([], []), ([10], [10]), ([11], [11]), ([12], [12]), ([4, 9, 13], [4, 9, 13]), ([14], [14]), ([0, 15], [0, 15]), ([16, 16, 0, 1, 2, 3, 4, 5, 6, 7, 8, 9, 10, 11, 12, 13, 14, 15, 16], [0, 16])])
def bo_B : List Nat := [0, 0, 2, 6, 14, 0, 32, 96, 224, 480, 0, 1024, 3072, 7168, 16382, 32766, 65535, 131071]
theorem infoA : (Try.prog.info? 26).map (fun i => (i.zero, i.size, i.bytes)) = some (some (.agg #[.string ⟨#[]⟩, .string ⟨#[]⟩, .bool false]), 3, 40) := by kernel_rfl
/-- a book's cells, as Books shows it -/
def showB (b : MBk) : List Value := [.string b.name, .string ⟨b.text.toArray⟩, .bool b.write]
theorem append_book (v : Value) (n : Nat) (xs : List Value) (w : World) (base : Nat) (hbase : base ≤ w.heap.size) (hown : w.ownsRow base 26 3 v n xs) (vb : Nat) (p q r : Value) (hp : p.oneCell' = true) (hq : q.oneCell' = true) (hr : r.oneCell' = true) (hc : w.heap[vb]? = some (.cells #[p, q, r] 26 (0, 0))) (hn : n ≤ 1000) (ty : TypeId) :
    ∃ v' w', (Builtin.append_ #[22, 22] ty #[v, .slice (some ⟨vb, 0, none⟩) 1 1]).run Try.prog w = .ok v' w' ∧ w'.ownsRow base 26 3 v' (n + 1) (xs ++ [p, q, r]) ∧ w.grownBy w' v.ownBlock ∧ (v'.ownBlock = v.ownBlock ∨ v'.ownBlock = some w.heap.size) := by
  obtain ⟨i0, hi, hz0, hz1, hz2⟩ := info_parts infoA
  obtain ⟨v1, w1, hr, h2, h3, _, h5⟩ := run_append_own_at (P := Try.prog) w base 22 ty 26 i0 _ 3 40 Try.underlying22 hi hz0 hz1 hz2 rfl (by omega) v n xs hown ⟨vb, 0, none⟩ 1 1 [p, q, r] (by simp) (fun j u hu => by
    rw [Addr.add_lit]
    match j, hu with
    | 0, hu => simp at hu; subst hu; exact (blk_cell hc 0).trans rfl
    | 1, hu => simp at hu; subst hu; exact (blk_cell hc 1).trans rfl
    | 2, hu => simp at hu; subst hu; exact (blk_cell hc 2).trans rfl
    | j + 3, hu => simp at hu) (fun u hu => by
      simp at hu
      rcases hu with rfl | rfl | rfl <;> assumption) (by simp only [maxLen]; omega) (by omega) hbase
  exact ⟨v1, w1, hr, h2, h3, h5⟩
theorem conv_text {κ : Nat → Tag} {t : Tag} {w : World} {v : Value} {l : List UInt8} (h : TxAt κ t w v l) : (convert 60 9 v).run Try.prog w = .ok (.string ⟨l.toArray⟩) w := by
  rcases h with ⟨rfl, rfl⟩ | ⟨a, rfl, rfl⟩ | ⟨g, cap, cur, lo, hi, rfl, _, hc, _, _, _, _, ht⟩
  · exact Lib.run_convert_nil_bytes w 60 9 5 0 Try.underlying60 Try.underlying5 Try.underlying9
  · exact run_convert_bytes_back w 60 9 5 a 0 [] Try.underlying60 Try.underlying5 Try.underlying9 (fun j hj => absurd hj (Nat.not_lt_zero _))
  · refine run_convert_bytes_back w 60 9 5 ⟨g, 0, none⟩ cap l Try.underlying60 Try.underlying5 Try.underlying9 (fun j hj => ?_)
    rw [Addr.add_lit]
    show w.cell? ⟨g, 0 + j, none⟩ = _
    rw [Nat.zero_add]
    have h1 : (cur.toList.take l.length)[j]? = some (.int .u8 ((l[j]'hj).toNat)) := by
      rw [ht, u8s, List.getElem?_map, List.getElem?_eq_getElem hj]; rfl
    rw [List.getElem?_take, if_pos hj] at h1
    simp only [World.cell?, hc]
    simpa using h1
theorem cell_al3 {w : World} {o : Obj} {y : Addr} {v : Value} (h : w.cell? y = some v) : (w.alloc o).cell? y = some v :=
  (World.cell?_of_block (Below.heap_alloc w o y.block (World.block_lt_of_cell? w _ h))).trans h
/-- all books, in a row of the call's own -/
theorem books_walk {κ : Nat → Tag} {L : Lay} {m : MW} (w : World) (h : WAt κ L w m) :
    Calls Try.prog 16 #[pt L.p] w fun e w' => (∃ v, e = .returned v ∧ w'.ownsRow w.heap.size 26 3 v m.books.length (m.books.flatMap showB)) ∧ Below w.heap.size w w' := by
  have H := Aside0.mk h
  obtain ⟨⟨z0, z1⟩, _, _⟩ := h.head
  have hlen : m.books.length ≤ 67 := h.ok.bs
  have hrow : ∃ a cap, L.vb = .slice a m.books.length cap ∧ ∀ (w' : World), Below w.heap.size w w' → ∀ i (hi : i < m.books.length), ∃ g, a = some ⟨g, 0, none⟩ ∧ w'.cell? ⟨g, i, none⟩ = some (pt (L.bk (m.books[i]'hi).id)) := by
    rcases h.rowB with ⟨hv, hn⟩ | ⟨g, cap, hv, hc⟩
    · exact ⟨none, 0, by rw [hv, hn]; rfl, fun w' _ i hi => by rw [hn] at hi; exact absurd hi (Nat.not_lt_zero _)⟩
    · exact ⟨_, cap, hv, fun w' hb i hi => ⟨g, rfl, (hb.cell (World.block_lt_of_cell? w _ (hc i hi))).trans (hc i hi)⟩⟩
  obtain ⟨a, cap, hv, hc⟩ := hrow
  rw [hv] at z0
  have HC := Aside0.mk hc
  have hBB := Aside0.mk (Below.refl w.heap.size w)
  clear hc h
  unfold pt
  go_enter Try.func16, Try.ntmps16
  go_wp2
  go_loopw [3, 13] (fun o i wr => ∃ (k : Nat), k ≤ m.books.length ∧ i = .int .i64 k ∧ (∃ oa on oc, o = .slice oa on oc) ∧ Aside0 (Below w.heap.size w wr) ∧ Aside0 (wr.ownsRow w.heap.size 26 3 o k ((m.books.take k).flatMap showB))) (fun _ i _ => m.books.length - (intOf i).toNat)
  case atStart => exact ⟨0, Nat.zero_le _, rfl, ⟨_, _, _, rfl⟩, hBB, ⟨World.ownsRow_nil ..⟩⟩
  case round =>
    obtain ⟨k, hk, rfl, ⟨oa, on, oc, rfl⟩, HB, HO⟩ := hrel
    by_cases hlt : k < m.books.length
    · obtain ⟨g, rfl, hc1⟩ := HC.out wr HB.out k hlt
      have hbm := List.getElem_mem hlt
      have hW := H.out.below HB.out
      obtain ⟨⟨x0, x1, x2⟩, _⟩ := hW.bc hbm
      have hsn : (m.books.take (k + 1)).flatMap showB = (m.books.take k).flatMap showB ++ showB (m.books[k]) := by
        rw [List.take_succ_eq_append_getElem hlt, List.flatMap_append]; simp
      have HSN := Aside0.mk hsn
      have hcv : ∀ W, Below wr.heap.size wr W → (convert 60 9 (L.tv (m.books[k]).id)).run Try.prog W = .ok (.string ⟨(m.books[k]).text.toArray⟩) W := fun W hb => conv_text ((hW.below hb).tx _ hbm)
      have HCV := Aside0.mk hcv
      clear hsn hcv hbm hW
      unfold pt at hc1
      generalize m.books[k] = b at *
      have hvb := blk_new wr.drew (.cells #[.string b.name, .string ⟨b.text.toArray⟩, .bool b.write] 26)
      have hlo : w.heap.size ≤ wr.heap.size := HB.out.size
      have hBd : Below w.heap.size w wr.drew := HB.out.drew
      have hOd : wr.drew.ownsRow w.heap.size 26 3 (.slice oa on oc) k ((m.books.take k).flatMap showB) := HO.out
      obtain ⟨v', w', hr, hown, hgr, ho⟩ := append_book _ k _ (wr.drew.alloc (.cells #[.string b.name, .string ⟨b.text.toArray⟩, .bool b.write] 26)) w.heap.size (by show _ ≤ (wr.heap.push _).size; simp; omega) (hOd.alloc _) wr.heap.size _ _ _ rfl rfl rfl hvb (by omega) 22
      have hB' : Below w.heap.size w w' := (hBd.alloc (by exact hlo) _).grown hgr (by show _ ≤ (wr.heap.push _).size; simp; omega) (fun q hq => ((hOd.alloc (.cells #[.string b.name, .string ⟨b.text.toArray⟩, .bool b.write] 26)).lt q hq).1)
      have hsh : ∃ a n c, v' = .slice a n c := by
        rcases hown.2 with ⟨h, _⟩ | ⟨g, c, cur, h, _⟩
        · exact ⟨_, _, _, h⟩
        · exact ⟨_, _, _, h⟩
      obtain ⟨a', n', c', rfl⟩ := hsh
      have HRUN := Aside0.mk hr
      have HOWN := Aside0.mk hown
      have HB2 := Aside0.mk hB'
      have c0 := HCV.out wr.drew (below_drew1 (Below.refl _ _))
      have c1 := HCV.out (wr.drew.alloc (.cells #[.string b.name, .string ⟨b.text.toArray⟩, .bool b.write] 26)) ((below_drew1 (Below.refl _ _)).alloc (Nat.le_refl _) _)
      have hlt2 := hlt
      clear hr hown hgr ho hB' hvb hBd hOd
      generalize L.bk b.id = bb at *
      generalize L.tv b.id = tv at *
      go_upto_region 7 with fail
      refine start_ (n := 18) (S := fun w' => w'.cell? ⟨bb, 0, none⟩ = some (.string b.name) ∧ w'.cell? ⟨bb, 1, none⟩ = some tv ∧ w'.cell? ⟨bb, 2, none⟩ = some (.bool b.write) ∧ (convert 60 9 tv).run Try.prog w' = .ok (.string ⟨b.text.toArray⟩) w') (ds := [16]) (bl 18 0) (by kernel_rfl) (by kernel_rfl) (by kernel_rfl) (⟨x0, x1, x2, c0⟩) (fun hHeld => ?_)
      refine with_tabW (T := bo_T) (B := bo_B) (by as_aux_lemma => kernel_rfl) (by as_aux_lemma => kernel_rfl) (fun HT_ HW_ => ?_)
      refine pu 0 17 (bl 18 0x1) HT_ ?_
      refine pu 1 18 (bl 18 0x3) HT_ ?_
      refine pu 2 19 (bl 18 0x7) HT_ ?_
      refine pu 3 20 (bl 18 0xf) HT_ ?_
      refine ta 4 21 (bl 18 0x1f) HT_ HW_ hHeld ?_
      refine pu 5 22 (bl 18 0x3f) HT_ ?_
      refine pu 6 23 (bl 18 0x7f) HT_ ?_
      refine pu 7 24 (bl 18 0xff) HT_ ?_
      refine ta 8 25 (bl 18 0x1ff) HT_ HW_ hHeld ?_
      refine ta 9 26 (bl 18 0x3ff) HT_ HW_ hHeld ?_
      refine pu 10 27 (bl 18 0x7ff) HT_ ?_
      refine pu 11 28 (bl 18 0xfff) HT_ ?_
      refine pu 12 29 (bl 18 0x1fff) HT_ ?_
      refine ta 13 30 (bl 18 0x3fff) HT_ HW_ hHeld ?_
      refine pu 14 31 (bl 18 0x7fff) HT_ ?_
      refine one_ (i := 15) (N := some 32) (bl 18 0xffff) rfl rfl (one_of HT_.out (by as_aux_lemma => kernel_rfl)) (by decide) (fun K hK => ?_)
      rw [if_pos (by as_aux_lemma => kernel_rfl)]
      go_simp
      refine hK.out _ _ (⟨cell_al3 x0, cell_al3 x1, cell_al3 x2, c1⟩) (fun hHeld => ?_)
      clear hK K
      refine last_ (i := 16) (N := some 33) (bl 18 0x1ffff) rfl rfl (one_of HT_.out (by as_aux_lemma => kernel_rfl)) (by decide) (fun K hK => ?_)
      rw [if_pos (by as_aux_lemma => kernel_rfl)]
      refine Lib.wp_append_run _ (.tmp 17) (.tmp 32) 22 22 rfl (.slice oa on oc) (.slice (some ⟨wr.heap.size, 0, none⟩) 1 1) ?_ ?_ (.slice a' n' c') w' ?_ ?_
      · rfl
      · rfl
      · exact HRUN.out
      refine hK.out _ _ ?_
      clear hK K
      refine pu 17 3 (bl 18 0x3ffff) HT_ ?_
      refine done_ (done_of HT_.out (by as_aux_lemma => kernel_rfl)) ?_
      go_wp2
      go_roundw
      case rel => exact ⟨k + 1, by omega, by go_num, ⟨_, _, _, rfl⟩, HB2, ⟨by rw [HSN.out]; exact HOWN.out⟩⟩
      case measure => simp [intOf]; omega
    · obtain rfl : k = m.books.length := by omega
      have ht : m.books.take m.books.length = m.books := List.take_of_length_le (Nat.le_refl _)
      rw [ht] at HO
      clear ht
      go_wp2
      go_ret
      exact ⟨⟨_, rfl, HO.out⟩, HB.out⟩
end Go.Proofs.Ytonmdifmlpfcpaa.PB
