import Derived.StillTailTactics
import Derived.ArgAppend
import Derived.Below
import Derived.BigQuiet
import Derived.Deep.AppendLies
import Derived.Deep.CutBlock
import Derived.Deep.DeepCutAuto
import Derived.Deep.Draws
import Derived.Deep.LoopGhost
import Derived.Deep.OwnRows
import Derived.Deep.QuietTactic
import Derived.Deep.RegionHeld3
import Derived.KernelRfl
import Derived.Laws.Bits64b
import Derived.Laws.BitsLemmas
import Derived.Laws.BytesArg
import Derived.Laws.Externs
import Derived.Laws.IdiomCopy
import Derived.Laws.MakeOwn
import Derived.Laws.MathBits
import Derived.Laws.OwnMore
import Derived.Laws.Rows
import Derived.Laws.Slices
import Derived.Lib.AppendStr
import Derived.Lib.ConvBytes
import Derived.Maps.AppendAt
import Derived.OrdersHeld
import Derived.OwnWalk
import Derived.RowKit
import Derived.RowKit3
import Derived.Tactics
import Derived.Test.YtonmdifmlpfcpaaProg
import Derived.WalkKit
import Derived.WideLaws
import Derived.Lib.Walk
import Derived.Lib.SliceRun
import Derived.Lib.JoinLaws
import Derived.Lib.AppendZeros
import Derived.Lib.Overlaps
import Derived.Lib.AppendZerosOnto
import Derived.Shelf.RegionOpenPlain
import Derived.Shelf.Spec.SlicesInsert
import Derived.Deep.RegionLaw
import Derived.Lib.BufferRead
import Derived.Laws.IdiomStrings
import Derived.Test.YtonmdifmlpfcpaaWWords
import Derived.Test.YtonmdifmlpfcpaaWLast
import Derived.Test.YtonmdifmlpfcpaaWTab
import Derived.Test.YtonmdifmlpfcpaaWFour
import Derived.Test.YtonmdifmlpfcpaaWQPut
import Derived.Test.YtonmdifmlpfcpaaWApart
import Derived.Test.YtonmdifmlpfcpaaWArr
import Derived.Test.YtonmdifmlpfcpaaWZeros
import Derived.Test.YtonmdifmlpfcpaaWFoot
import Derived.Test.YtonmdifmlpfcpaaWKept
import Derived.Test.YtonmdifmlpfcpaaWShare
import Derived.Test.YtonmdifmlpfcpaaWN
import Derived.Test.YtonmdifmlpfcpaaWFootNe
import Derived.Test.YtonmdifmlpfcpaaWAt
import Derived.Test.YtonmdifmlpfcpaaWEqStruct
import Derived.Test.YtonmdifmlpfcpaaWRepsOne
import Derived.Test.YtonmdifmlpfcpaaWInv
import Derived.Test.YtonmdifmlpfcpaaWInvWords
import Derived.Test.YtonmdifmlpfcpaaWGuard
import Derived.Test.YtonmdifmlpfcpaaWNEv
import Derived.Test.YtonmdifmlpfcpaaWMore
namespace Go.Proofs.Ytonmdifmlpfcpaa.PB
open Go.RowKit Go.Proofs.YtonmdifmlpfcpaaW.PrintWords Go.Proofs.YtonmdifmlpfcpaaW.PrintLast Go.Proofs.YtonmdifmlpfcpaaW.PrintMore
set_option linter.unusedVariables false
set_option linter.unusedSimpArgs false
set_option maxRecDepth 100000
set_option maxHeartbeats 1000000
/-! boxes that a law's walk carries along -/
structure Bxs (w wx : World) (bs : List (Nat × Array Value × TypeId)) : Prop where
  h : ∀ p ∈ bs, wx.heap[p.1]? = some (.cells p.2.1 p.2.2 (0, 0))
  b : Below w.heap.size w wx
theorem Bxs.next {w wx w2 : World} {bs : List (Nat × Array Value × TypeId)} (h : Bxs w wx bs) (hb : Below wx.heap.size wx w2) : Bxs w w2 bs := ⟨fun p hp => blk_below (h.h p hp) hb, below_step h.b hb⟩
theorem Bxs.drew {w wx : World} {bs : List (Nat × Array Value × TypeId)} (h : Bxs w wx bs) : Bxs w wx.drew bs := ⟨fun p hp => blk_drew (h.h p hp), below_drew1 h.b⟩
theorem Bxs.drewN {w wx : World} {bs : List (Nat × Array Value × TypeId)} (h : Bxs w wx bs) (n : Nat) : Bxs w (wx.drewN n) bs := ⟨fun p hp => blk_drewN (h.h p hp) n, pw_below_drewN h.b n⟩
theorem Bxs.alloc {w wx : World} {bs : List (Nat × Array Value × TypeId)} (h : Bxs w wx bs) (o : Obj) : Bxs w (wx.alloc o) bs := ⟨fun p hp => blk_alloc (h.h p hp) _, below_alloc h.b _⟩
theorem Bxs.push {w wx : World} {bs : List (Nat × Array Value × TypeId)} (h : Bxs w wx bs) (cs : Array Value) (t : TypeId) : Bxs w (wx.alloc (.cells cs t)) ((wx.heap.size, cs, t) :: bs) := by
  refine ⟨fun p hp => ?_, below_alloc h.b _⟩
  rcases List.mem_cons.1 hp with rfl | hp
  · exact blk_new _ _
  · exact blk_alloc (h.h p hp) _
theorem Bxs.get {w wx : World} {g : Nat} {cs : Array Value} {t : TypeId} {bs : List (Nat × Array Value × TypeId)} (h : Bxs w wx ((g, cs, t) :: bs)) : wx.heap[g]? = some (.cells cs t (0, 0)) := h.h _ (List.mem_cons_self ..)
theorem Bxs.tail {w wx : World} {p : Nat × Array Value × TypeId} {bs : List (Nat × Array Value × TypeId)} (h : Bxs w wx (p :: bs)) : Bxs w wx bs := ⟨fun q hq => h.h q (List.mem_cons_of_mem _ hq), h.b⟩
theorem bxs_nil (w : World) : Bxs w w [] := ⟨fun _ h => (List.not_mem_nil h).elim, Below.refl _ _⟩
theorem c2 {w : World} {g : Nat} {a b : Value} {t : TypeId} (h : w.heap[g]? = some (.cells #[a, b] t (0, 0))) : w.cell? ⟨g, 0, none⟩ = some a ∧ w.cell? ⟨g, 1, none⟩ = some b := ⟨(blk_cell h 0).trans rfl, (blk_cell h 1).trans rfl⟩
theorem Bxs.perm {w wx : World} {l l' : List (Nat × Array Value × TypeId)} (h : Bxs w wx l) (hs : ∀ p ∈ l', p ∈ l) : Bxs w wx l' := ⟨fun p hp => h.h p (hs p hp), h.b⟩
theorem Bxs.swap {w wx : World} {p q : Nat × Array Value × TypeId} {l : List (Nat × Array Value × TypeId)} (h : Bxs w wx (p :: q :: l)) : Bxs w wx (q :: p :: l) := by
  refine ⟨fun r hr => h.h r ?_, h.b⟩
  rcases List.mem_cons.1 hr with rfl | hr
  · exact List.mem_cons_of_mem _ (List.mem_cons_self ..)
  · rcases List.mem_cons.1 hr with rfl | hr
    · exact List.mem_cons_self ..
    · exact List.mem_cons_of_mem _ (List.mem_cons_of_mem _ hr)
theorem Bxs.put2 {w wx : World} {g : Nat} {a b a' b' : Value} {t : TypeId} {l : List (Nat × Array Value × TypeId)} (h : Bxs w wx ((g, #[a, b], t) :: l)) (hl : ∀ p ∈ l, p.1 ≠ g) (hg : w.heap.size ≤ g) : Bxs w ((wx.setCell ⟨g, 0, none⟩ a').setCell ⟨g, 1, none⟩ b') ((g, #[a', b'], t) :: l) := by
  refine ⟨fun p hp => ?_, below_set (below_set h.b hg) hg⟩
  rcases List.mem_cons.1 hp with rfl | hp
  · exact blk_put (blk_put h.get 0 _ rfl) 1 _ rfl
  · exact blk_far (blk_far (h.tail.h p hp) (hl p hp) _) (hl p hp) _
theorem f2 {w : World} {g : Nat} {a b : Value} {t : TypeId} (h : w.heap[g]? = some (.cells #[a, b] t (0, 0))) : w.frozen? ⟨g, 0, none⟩ = false ∧ w.frozen? ⟨g, 1, none⟩ = false := ⟨blk_frozen h 0, blk_frozen h 1⟩
theorem c6 {w : World} {g : Nat} {a b c d e f : Value} {t : TypeId} (h : w.heap[g]? = some (.cells #[a, b, c, d, e, f] t (0, 0))) : w.cell? ⟨g, 0, none⟩ = some a ∧ w.cell? ⟨g, 1, none⟩ = some b ∧ w.cell? ⟨g, 2, none⟩ = some c ∧ w.cell? ⟨g, 3, none⟩ = some d ∧ w.cell? ⟨g, 4, none⟩ = some e ∧ w.cell? ⟨g, 5, none⟩ = some f :=
  ⟨(blk_cell h 0).trans rfl, (blk_cell h 1).trans rfl, (blk_cell h 2).trans rfl, (blk_cell h 3).trans rfl, (blk_cell h 4).trans rfl, (blk_cell h 5).trans rfl⟩
/-! ### worlds of books as plain data -/
structure MBk where
  id : Nat
  name : ByteArray
  text : List UInt8
  write : Bool
structure MFl where
  num : Nat
  bk : Nat
  pos : Nat
  mood : Nat
  fl : Nat → Bool
structure MW where
  next : Nat
  books : List MBk
  files : List MFl
/-- what holds of every world that the program makes -/
structure MW.ok (m : MW) : Prop where
  bs : m.books.length ≤ 67
  fs : m.files.length ≤ 20
  ids : (m.books.map MBk.id).Nodup
  lt : ∀ b ∈ m.books, b.id < m.next
  tx : ∀ b ∈ m.books, b.text.length ≤ 1048576
  nums : (m.files.map MFl.num).Pairwise (· < ·)
  pos : ∀ f ∈ m.files, 1 ≤ f.num ∧ f.pos ≤ 1048576
  has : ∀ f ∈ m.files, ∃ b ∈ m.books, b.id = f.bk
/-- what a block of the heap is to a world -/
inductive Tag
  | no | wd | rb | rf | bk (i : Nat) | tx (i : Nat) | fl (n : Nat) | dead
structure Lay where
  p : Nat
  vb : Value
  vf : Value
  bk : Nat → Nat
  tv : Nat → Value
  fl : Nat → Nat
def pt (b : Nat) : Value := .pointer (some ⟨b, 0, none⟩)
def Lay.fcells (L : Lay) (f : MFl) : Array Value := #[.int .i64 f.num, pt (L.bk f.bk), .int .i64 f.pos, .int .i64 f.mood, .bool (f.fl 0), .bool (f.fl 1), .bool (f.fl 2), .bool (f.fl 3), .bool (f.fl 4), .bool (f.fl 5)]
def Lay.bcells (L : Lay) (b : MBk) : Array Value := #[.string b.name, L.tv b.id, .bool b.write]
def u8s (l : List UInt8) : List Value := l.map fun c => .int .u8 c.toNat
/-- a slice of bytes -/
def TxAt (κ : Nat → Tag) (t : Tag) (w : World) (v : Value) (l : List UInt8) : Prop :=
  (v = .slice none 0 0 ∧ l = []) ∨ (∃ a, v = .slice (some a) 0 0 ∧ l = []) ∨ ∃ g cap cur lo hi, v = .slice (some ⟨g, 0, none⟩) l.length cap ∧ κ g = t ∧ w.heap[g]? = some (.cells cur 5 (lo, hi)) ∧ l.length ≤ cap ∧ cap ≤ cur.size ∧ cap ≤ maxLen ∧ (∀ j, j < cap → ¬ (lo ≤ j ∧ j < hi)) ∧ cur.toList.take l.length = u8s l
structure WAt (κ : Nat → Tag) (L : Lay) (w : World) (m : MW) : Prop where
  ok : m.ok
  tp : κ L.p = .wd
  hp : w.heap[L.p]? = some (.cells #[L.vb, L.vf] 57 (0, 0))
  rb : w.ownsRow 0 59 1 L.vb m.books.length (m.books.map fun b => pt (L.bk b.id))
  tb : ∀ g, L.vb.ownBlock = some g → κ g = .rb
  rf : w.ownsRow 0 64 1 L.vf m.files.length (m.files.map fun f => pt (L.fl f.num))
  tf : ∀ g, L.vf.ownBlock = some g → κ g = .rf
  kb : ∀ b ∈ m.books, κ (L.bk b.id) = .bk b.id
  hb : ∀ b ∈ m.books, w.heap[L.bk b.id]? = some (.cells (L.bcells b) 62 (0, 0))
  tx : ∀ b ∈ m.books, TxAt κ (.tx b.id) w (L.tv b.id) b.text
  kf : ∀ f ∈ m.files, κ (L.fl f.num) = .fl f.num
  hf : ∀ f ∈ m.files, w.heap[L.fl f.num]? = some (.cells (L.fcells f) 68 (0, 0))
  top : ∀ k, w.heap.size ≤ k → κ k = .no
structure Nx (κ : Nat → Tag) (w : World) (κ' : Nat → Tag) (w' : World) : Prop where
  os : w'.os = w.os
  tape : w'.tape = w.tape
  output : w'.output = w.output
  size : w.heap.size ≤ w'.heap.size
  block : ∀ k, k < w.heap.size → κ k = .no → w'.heap[k]? = w.heap[k]?
  tag : ∀ k, k < w.heap.size → (κ' k = .no ↔ κ k = .no)
theorem Nx.refl (κ : Nat → Tag) (w : World) : Nx κ w κ w := ⟨rfl, rfl, rfl, Nat.le_refl _, fun _ _ _ => rfl, fun _ _ => Iff.rfl⟩
theorem Nx.trans {κ κ1 κ2 : Nat → Tag} {w w1 w2 : World} (h : Nx κ w κ1 w1) (k : Nx κ1 w1 κ2 w2) : Nx κ w κ2 w2 :=
  ⟨k.os.trans h.os, k.tape.trans h.tape, k.output.trans h.output, Nat.le_trans h.size k.size,
    fun i hi hn => (k.block i (Nat.lt_of_lt_of_le hi h.size) ((h.tag i hi).2 hn)).trans (h.block i hi hn),
    fun i hi => (k.tag i (Nat.lt_of_lt_of_le hi h.size)).trans (h.tag i hi)⟩
theorem Below.nx {w w' : World} (κ : Nat → Tag) (h : Below w.heap.size w w') : Nx κ w κ w' :=
  ⟨h.os, h.tape, h.output, h.size, fun k hk _ => h.block k hk, fun _ _ => Iff.rfl⟩
theorem ownsRow_of_block {w w' : World} {base : Nat} {e : TypeId} {size : Nat} {v : Value} {n : Nat} {xs : List Value} (h : w.ownsRow base e size v n xs) (hb : ∀ g, v.ownBlock = some g → w'.heap[g]? = w.heap[g]?) : w'.ownsRow base e size v n xs := by
  refine ⟨h.1, ?_⟩
  rcases h.2 with h | ⟨g, cap, cur, rfl, hg, hc, r⟩
  · exact .inl h
  · exact .inr ⟨g, cap, cur, rfl, hg, (hb g rfl).trans hc, r⟩
theorem TxAt.of_block {κ κ' : Nat → Tag} {t : Tag} {w w' : World} {v : Value} {l : List UInt8} (h : TxAt κ t w v l) (hk : ∀ g, κ g = t → κ' g = t) (hb : ∀ g, κ g = t → w'.heap[g]? = w.heap[g]?) : TxAt κ' t w' v l := by
  rcases h with h | h | ⟨g, cap, cur, lo, hi, hv, ht, hc, r⟩
  · exact .inl h
  · exact .inr (.inl h)
  · exact .inr (.inr ⟨g, cap, cur, lo, hi, hv, hk g ht, (hb g ht).trans hc, r⟩)
theorem WAt.keep {κ κ' : Nat → Tag} {L : Lay} {w w' : World} {m : MW} (h : WAt κ L w m) (hk : ∀ k, κ k ≠ .no → κ' k = κ k) (hb : ∀ k, κ k ≠ .no → w'.heap[k]? = w.heap[k]?) (ht : ∀ k, w'.heap.size ≤ k → κ' k = .no) : WAt κ' L w' m where
  ok := h.ok
  tp := (hk _ (by rw [h.tp]; exact Tag.noConfusion)).trans h.tp
  hp := (hb _ (by rw [h.tp]; exact Tag.noConfusion)).trans h.hp
  rb := ownsRow_of_block h.rb fun g hg => hb g (by rw [h.tb g hg]; exact Tag.noConfusion)
  tb := fun g hg => (hk g (by rw [h.tb g hg]; exact Tag.noConfusion)).trans (h.tb g hg)
  rf := ownsRow_of_block h.rf fun g hg => hb g (by rw [h.tf g hg]; exact Tag.noConfusion)
  tf := fun g hg => (hk g (by rw [h.tf g hg]; exact Tag.noConfusion)).trans (h.tf g hg)
  kb := fun b hm => (hk _ (by rw [h.kb b hm]; exact Tag.noConfusion)).trans (h.kb b hm)
  hb := fun b hm => (hb _ (by rw [h.kb b hm]; exact Tag.noConfusion)).trans (h.hb b hm)
  tx := fun b hm => (h.tx b hm).of_block (fun g hg => (hk g (by rw [hg]; exact Tag.noConfusion)).trans hg) (fun g hg => hb g (by rw [hg]; exact Tag.noConfusion))
  kf := fun f hm => (hk _ (by rw [h.kf f hm]; exact Tag.noConfusion)).trans (h.kf f hm)
  hf := fun f hm => (hb _ (by rw [h.kf f hm]; exact Tag.noConfusion)).trans (h.hf f hm)
  top := ht
theorem WAt.lt {κ : Nat → Tag} {L : Lay} {w : World} {m : MW} (h : WAt κ L w m) {k : Nat} (hk : κ k ≠ .no) : k < w.heap.size := by
  rcases Nat.lt_or_ge k w.heap.size with h1 | h1
  · exact h1
  · exact absurd (h.top k h1) hk
theorem WAt.below {κ : Nat → Tag} {L : Lay} {w w' : World} {m : MW} (h : WAt κ L w m) (hb : Below w.heap.size w w') : WAt κ L w' m :=
  h.keep (fun _ _ => rfl) (fun k hk => hb.block k (h.lt hk)) (fun k hk => h.top k (Nat.le_trans hb.size hk))
/-- another world beside it -/
theorem WAt.beside {κ κ1 κ2 : Nat → Tag} {L : Lay} {w w' : World} {m : MW} (h : WAt κ L w m) (hn : Nx κ1 w κ2 w') (hd : ∀ k, κ k = .no ∨ κ1 k = .no) : WAt κ L w' m :=
  h.keep (fun _ _ => rfl) (fun k hk => hn.block k (h.lt hk) ((hd k).resolve_left hk)) (fun k hk => h.top k (Nat.le_trans hn.size hk))
/-- the state that a walk over a world carries -/
def St (κ0 : Nat → Tag) (w0 : World) (κ : Nat → Tag) (L : Lay) (w : World) (m : MW) : Prop := WAt κ L w m ∧ Nx κ0 w0 κ w
theorem St.below {κ0 κ : Nat → Tag} {L : Lay} {w0 w w' : World} {m : MW} (h : St κ0 w0 κ L w m) (hb : Below w.heap.size w w') : St κ0 w0 κ L w' m := ⟨h.1.below hb, h.2.trans (Below.nx κ hb)⟩
theorem St.then {κ0 κ κ' : Nat → Tag} {L L' : Lay} {w0 w w' : World} {m m' : MW} (h : St κ0 w0 κ L w m) (hn : St κ w κ' L' w' m') : St κ0 w0 κ' L' w' m' := ⟨hn.1, h.2.trans hn.2⟩
theorem WAt.st {κ : Nat → Tag} {L : Lay} {w : World} {m : MW} (h : WAt κ L w m) : St κ w κ L w m := ⟨h, Nx.refl _ _⟩
theorem inj_of_nodup_map {α β : Type} {f : α → β} : ∀ {l : List α}, (l.map f).Nodup → ∀ {a b : α}, a ∈ l → b ∈ l → f a = f b → a = b
  | [], _, _, _, ha, _, _ => absurd ha List.not_mem_nil
  | x :: r, h, a, b, ha, hb, e => by
    rw [List.map_cons, List.nodup_cons] at h
    rcases List.mem_cons.1 ha with h1 | h1
    · rcases List.mem_cons.1 hb with h2 | h2
      · rw [h1, h2]
      · exact absurd (by rw [← h1, e]; exact List.mem_map_of_mem h2) h.1
    · rcases List.mem_cons.1 hb with h2 | h2
      · exact absurd (by rw [← h2, ← e]; exact List.mem_map_of_mem h1) h.1
      · exact inj_of_nodup_map h.2 h1 h2 e
def MW.setF (m : MW) (f' : MFl) : MW := { m with files := m.files.map fun g => if g.num = f'.num then f' else g }
theorem MW.ok.num_inj {m : MW} (h : m.ok) {f g : MFl} (hf : f ∈ m.files) (hg : g ∈ m.files) (e : f.num = g.num) : f = g := by
  have hn : (m.files.map MFl.num).Nodup := h.nums.imp (fun hab => Nat.ne_of_lt hab)
  exact inj_of_nodup_map hn hf hg e
theorem MW.ok.id_inj {m : MW} (h : m.ok) {a b : MBk} (ha : a ∈ m.books) (hb : b ∈ m.books) (e : a.id = b.id) : a = b := inj_of_nodup_map h.ids ha hb e
theorem setF_nums (m : MW) (f' : MFl) : (m.setF f').files.map MFl.num = m.files.map MFl.num := by
  simp only [MW.setF, List.map_map]
  refine List.map_congr_left fun g _ => ?_
  show (if g.num = f'.num then f' else g).num = g.num
  split <;> simp_all
theorem mem_setF {m : MW} {f' g : MFl} (h : g ∈ (m.setF f').files) : g = f' ∨ g ∈ m.files ∧ g.num ≠ f'.num := by
  obtain ⟨x, hx, rfl⟩ := List.mem_map.1 h
  by_cases e : x.num = f'.num
  · exact .inl (if_pos e)
  · rw [if_neg e]
    exact .inr ⟨hx, e⟩
theorem setF_mem {m : MW} {f f' : MFl} (hf : f ∈ m.files) (hn : f'.num = f.num) : f' ∈ (m.setF f').files :=
  List.mem_map.2 ⟨f, hf, if_pos hn.symm⟩
theorem MW.ok.setF {m : MW} (h : m.ok) {f f' : MFl} (hf : f ∈ m.files) (hn : f'.num = f.num) (hb : f'.bk = f.bk) (hp : f'.pos ≤ 1048576) : (m.setF f').ok where
  bs := h.bs
  fs := by show (m.files.map _).length ≤ 20; rw [List.length_map]; exact h.fs
  ids := h.ids
  lt := h.lt
  tx := h.tx
  nums := by rw [setF_nums]; exact h.nums
  pos := fun g hg => by
    rcases mem_setF hg with rfl | ⟨hg, _⟩
    · exact ⟨by rw [hn]; exact (h.pos f hf).1, hp⟩
    · exact h.pos g hg
  has := fun g hg => by
    rcases mem_setF hg with rfl | ⟨hg, _⟩
    · rw [hb]; exact h.has f hf
    · exact h.has g hg
theorem tne {κ : Nat → Tag} {a b : Nat} {s t : Tag} (ha : κ a = s) (hb : κ b = t) (h : s ≠ t) : a ≠ b := fun e => h (by rw [← ha, ← hb, e])
/-- a file's cells are written -/
theorem WAt.setF {κ : Nat → Tag} {L : Lay} {w w' : World} {m : MW} (h : WAt κ L w m) {f f' : MFl} (hf : f ∈ m.files) (hn : f'.num = f.num) (hb : f'.bk = f.bk) (hp : f'.pos ≤ 1048576)
    (hc : w'.heap[L.fl f.num]? = some (.cells (L.fcells f') 68 (0, 0))) (ho : ∀ k, k ≠ L.fl f.num → w'.heap[k]? = w.heap[k]?) (hs : w'.heap.size = w.heap.size) : WAt κ L w' (m.setF f') where
  ok := h.ok.setF hf hn hb hp
  tp := h.tp
  hp := (ho _ (tne h.tp (h.kf f hf) Tag.noConfusion)).trans h.hp
  rb := ownsRow_of_block h.rb fun g hg => ho _ (tne (h.tb g hg) (h.kf f hf) Tag.noConfusion)
  tb := h.tb
  rf := by
    have e1 : (m.setF f').files.length = m.files.length := by show (m.files.map _).length = _; rw [List.length_map]
    have e2 : ((m.setF f').files.map fun f => pt (L.fl f.num)) = m.files.map fun f => pt (L.fl f.num) := by
      have := congrArg (List.map fun n => pt (L.fl n)) (setF_nums m f')
      simpa only [List.map_map, Function.comp_def] using this
    rw [e1, e2]
    exact ownsRow_of_block h.rf fun g hg => ho _ (tne (h.tf g hg) (h.kf f hf) Tag.noConfusion)
  tf := h.tf
  kb := h.kb
  hb := fun b hm => (ho _ (tne (h.kb b hm) (h.kf f hf) Tag.noConfusion)).trans (h.hb b hm)
  tx := fun b hm => (h.tx b hm).of_block (fun _ hg => hg) (fun g hg => ho _ (tne hg (h.kf f hf) Tag.noConfusion))
  kf := fun g hg => by
    rcases mem_setF hg with rfl | ⟨hg, _⟩
    · rw [hn]; exact h.kf f hf
    · exact h.kf g hg
  hf := fun g hg => by
    rcases mem_setF hg with rfl | ⟨hg, hne⟩
    · rw [hn]; exact hc
    · refine (ho _ (tne (h.kf g hg) (h.kf f hf) fun e => hne ?_)).trans (h.hf g hg)
      rw [hn]; injection e
  top := fun k hk => h.top k (by rw [← hs]; exact hk)
theorem Nx.set {κ : Nat → Tag} {w w' : World} {g : Nat} (hg : κ g ≠ .no) (h1 : w'.os = w.os) (h2 : w'.tape = w.tape) (h3 : w'.output = w.output) (ho : ∀ k, k ≠ g → w'.heap[k]? = w.heap[k]?) (hs : w'.heap.size = w.heap.size) : Nx κ w κ w' :=
  ⟨h1, h2, h3, by rw [hs]; exact Nat.le_refl _, fun k _ hk => ho k fun e => hg (by rw [← e]; exact hk), fun _ _ => Iff.rfl⟩
theorem WAt.head {κ : Nat → Tag} {L : Lay} {w : World} {m : MW} (h : WAt κ L w m) : (w.cell? ⟨L.p, 0, none⟩ = some L.vb ∧ w.cell? ⟨L.p, 1, none⟩ = some L.vf) ∧ w.frozen? ⟨L.p, 0, none⟩ = false ∧ w.frozen? ⟨L.p, 1, none⟩ = false :=
  ⟨⟨(blk_cell h.hp 0).trans rfl, (blk_cell h.hp 1).trans rfl⟩, blk_frozen h.hp 0, blk_frozen h.hp 1⟩
theorem row_cases {w : World} {e : TypeId} {v : Value} {n : Nat} {xs : List Value} (h : w.ownsRow 0 e 1 v n xs) : (v = .slice none 0 0 ∧ n = 0) ∨ ∃ g cap, v = .slice (some ⟨g, 0, none⟩) n cap ∧ n ≤ cap ∧ cap ≤ maxLen ∧ ∀ i, i < n → w.cell? ⟨g, i, none⟩ = xs[i]? := by
  rcases h.2 with h1 | ⟨g, cap, cur, rfl, _, _, hc, hm, _⟩
  · exact .inl h1
  · exact .inr ⟨g, cap, rfl, hc, hm, fun i hi => h.cellAt i (by omega)⟩
theorem WAt.rowF {κ : Nat → Tag} {L : Lay} {w : World} {m : MW} (h : WAt κ L w m) : (L.vf = .slice none 0 0 ∧ m.files = []) ∨ ∃ g cap, L.vf = .slice (some ⟨g, 0, none⟩) m.files.length cap ∧ ∀ i (hi : i < m.files.length), w.cell? ⟨g, i, none⟩ = some (pt (L.fl (m.files[i]'hi).num)) := by
  rcases row_cases h.rf with ⟨h1, h2⟩ | ⟨g, cap, h1, _, _, h2⟩
  · exact .inl ⟨h1, List.length_eq_zero_iff.1 h2⟩
  · refine .inr ⟨g, cap, h1, fun i hi => ?_⟩
    rw [h2 i hi, List.getElem?_map, List.getElem?_eq_getElem hi]; rfl
theorem WAt.rowB {κ : Nat → Tag} {L : Lay} {w : World} {m : MW} (h : WAt κ L w m) : (L.vb = .slice none 0 0 ∧ m.books = []) ∨ ∃ g cap, L.vb = .slice (some ⟨g, 0, none⟩) m.books.length cap ∧ ∀ i (hi : i < m.books.length), w.cell? ⟨g, i, none⟩ = some (pt (L.bk (m.books[i]'hi).id)) := by
  rcases row_cases h.rb with ⟨h1, h2⟩ | ⟨g, cap, h1, _, _, h2⟩
  · exact .inl ⟨h1, List.length_eq_zero_iff.1 h2⟩
  · refine .inr ⟨g, cap, h1, fun i hi => ?_⟩
    rw [h2 i hi, List.getElem?_map, List.getElem?_eq_getElem hi]; rfl
/-- a file's cells -/
theorem WAt.fc {κ : Nat → Tag} {L : Lay} {w : World} {m : MW} (h : WAt κ L w m) {f : MFl} (hf : f ∈ m.files) :
    (w.cell? ⟨L.fl f.num, 0, none⟩ = some (.int .i64 f.num) ∧ w.cell? ⟨L.fl f.num, 1, none⟩ = some (.pointer (some ⟨L.bk f.bk, 0, none⟩)) ∧ w.cell? ⟨L.fl f.num, 2, none⟩ = some (.int .i64 f.pos) ∧ w.cell? ⟨L.fl f.num, 3, none⟩ = some (.int .i64 f.mood)) ∧ w.frozen? ⟨L.fl f.num, 2, none⟩ = false ∧ w.frozen? ⟨L.fl f.num, 3, none⟩ = false :=
  ⟨⟨(blk_cell (h.hf f hf) 0).trans rfl, (blk_cell (h.hf f hf) 1).trans rfl, (blk_cell (h.hf f hf) 2).trans rfl, (blk_cell (h.hf f hf) 3).trans rfl⟩, blk_frozen (h.hf f hf) 2, blk_frozen (h.hf f hf) 3⟩
theorem WAt.flag {κ : Nat → Tag} {L : Lay} {w : World} {m : MW} (h : WAt κ L w m) {f : MFl} (hf : f ∈ m.files) (ev : Nat) (he : ev < 6) :
    w.cell? ⟨L.fl f.num, 4 + ev, none⟩ = some (.bool (f.fl ev)) ∧ w.frozen? ⟨L.fl f.num, 4 + ev, none⟩ = false := by
  refine ⟨?_, blk_frozen (h.hf f hf) _⟩
  have : ev = 0 ∨ ev = 1 ∨ ev = 2 ∨ ev = 3 ∨ ev = 4 ∨ ev = 5 := by omega
  rcases this with rfl | rfl | rfl | rfl | rfl | rfl <;> exact (blk_cell (h.hf f hf) _).trans rfl
/-- a book's cells -/
theorem WAt.bc {κ : Nat → Tag} {L : Lay} {w : World} {m : MW} (h : WAt κ L w m) {b : MBk} (hb : b ∈ m.books) :
    (w.cell? ⟨L.bk b.id, 0, none⟩ = some (.string b.name) ∧ w.cell? ⟨L.bk b.id, 1, none⟩ = some (L.tv b.id) ∧ w.cell? ⟨L.bk b.id, 2, none⟩ = some (.bool b.write)) ∧ w.frozen? ⟨L.bk b.id, 1, none⟩ = false :=
  ⟨⟨(blk_cell (h.hb b hb) 0).trans rfl, (blk_cell (h.hb b hb) 1).trans rfl, (blk_cell (h.hb b hb) 2).trans rfl⟩, blk_frozen (h.hb b hb) 1⟩
def MW.file (m : MW) (n : Int) : Option MFl := m.files.find? fun f => decide ((f.num : Int) = n)
def MW.find (m : MW) (s : ByteArray) : Option MBk := m.books.find? fun b => decide (b.name = s)
def findV (L : Lay) : Option MBk → Value
  | some b => pt (L.bk b.id)
  | none => .pointer none
def fileV (L : Lay) : Option MFl → Value
  | some f => .tuple #[pt (L.fl f.num), .int .i64 0]
  | none => .tuple #[.pointer none, .int .i64 29]
theorem find?_at {α : Type} {p : α → Bool} {l : List α} {k : Nat} (hk : k < l.length) (hp : p l[k] = true) (hn : ∀ j (hj : j < l.length), j < k → p l[j] = false) : l.find? p = some l[k] := by
  induction l generalizing k with
  | nil => exact absurd hk (Nat.not_lt_zero _)
  | cons x r ih =>
    cases k with
    | zero => rw [List.find?_cons_of_pos (by simpa using hp)]; rfl
    | succ k =>
      have h0 : p x = false := hn 0 (Nat.zero_lt_succ _) (Nat.zero_lt_succ _)
      rw [List.find?_cons_of_neg (by simp [h0])]
      exact ih (by simpa using hk) (by simpa using hp) fun j hj hjk => hn (j + 1) (by simpa using hj) (by omega)
theorem find?_no {α : Type} {p : α → Bool} {l : List α} (hn : ∀ j (hj : j < l.length), p l[j] = false) : l.find? p = none := by
  rw [List.find?_eq_none]
  intro x hx
  obtain ⟨j, hj, rfl⟩ := List.mem_iff_getElem.1 hx
  simp [hn j hj]
theorem TxAt.sl {κ : Nat → Tag} {t : Tag} {w : World} {v : Value} {l : List UInt8} (h : TxAt κ t w v l) : ∃ a cap, v = .slice a l.length cap ∧ l.length ≤ cap ∧ cap ≤ maxLen ∧ ∀ i (hi : i < l.length), ∃ g, a = some ⟨g, 0, none⟩ ∧ κ g = t ∧ w.cell? ⟨g, i, none⟩ = some (.int .u8 ((l[i]'hi).toNat)) := by
  rcases h with ⟨rfl, rfl⟩ | ⟨a, rfl, rfl⟩ | ⟨g, cap, cur, lo, hi, rfl, hk, hc, h1, _, h2, _, ht⟩
  · exact ⟨none, 0, rfl, Nat.le_refl _, Nat.zero_le _, fun i hi => absurd hi (Nat.not_lt_zero _)⟩
  · exact ⟨some a, 0, rfl, Nat.le_refl _, Nat.zero_le _, fun i hi => absurd hi (Nat.not_lt_zero _)⟩
  · refine ⟨_, cap, rfl, h1, h2, fun i hi => ⟨g, rfl, hk, ?_⟩⟩
    have h1 : (cur.toList.take l.length)[i]? = some (.int .u8 ((l[i]'hi).toNat)) := by
      rw [ht, u8s, List.getElem?_map, List.getElem?_eq_getElem hi]; rfl
    rw [List.getElem?_take, if_pos hi] at h1
    simp only [World.cell?, hc]
    simpa using h1
def MW.text (m : MW) (f : MFl) : List UInt8 := ((m.books.find? fun b => decide (b.id = f.bk)).map MBk.text).getD []
theorem MW.ok.text {m : MW} (h : m.ok) {f : MFl} {b : MBk} (hb : b ∈ m.books) (e : b.id = f.bk) : m.text f = b.text := by
  unfold MW.text
  cases hx : m.books.find? fun b => decide (b.id = f.bk) with
  | none => exact absurd (decide_eq_true e) (by simpa using List.find?_eq_none.1 hx b hb)
  | some c =>
    have h1 := List.find?_some hx
    have h2 := List.mem_of_find?_eq_some hx
    rw [h.id_inj h2 hb ((of_decide_eq_true h1).trans e.symm)]; rfl
theorem MW.file_mem {m : MW} {n : Int} {f : MFl} (h : m.file n = some f) : f ∈ m.files ∧ (f.num : Int) = n := by
  unfold MW.file at h
  exact ⟨List.mem_of_find?_eq_some h, by simpa using List.find?_some h⟩
theorem MW.find_mem {m : MW} {s : ByteArray} {b : MBk} (h : m.find s = some b) : b ∈ m.books ∧ b.name = s := by
  unfold MW.find at h
  exact ⟨List.mem_of_find?_eq_some h, by simpa using List.find?_some h⟩
/-- a file, its book and the book's text -/
theorem WAt.ft {κ : Nat → Tag} {L : Lay} {w : World} {m : MW} (h : WAt κ L w m) {f : MFl} (hf : f ∈ m.files) : ∃ g a cap, L.bk f.bk = g ∧ κ g = .bk f.bk ∧ w.cell? ⟨g, 1, none⟩ = some (.slice a (m.text f).length cap) ∧ (m.text f).length ≤ 1048576 ∧ (m.text f).length ≤ cap ∧ cap ≤ maxLen ∧ ∀ i (hi : i < (m.text f).length), ∃ q, a = some ⟨q, 0, none⟩ ∧ κ q = .tx f.bk ∧ w.cell? ⟨q, i, none⟩ = some (.int .u8 (((m.text f)[i]'hi).toNat)) := by
  obtain ⟨b, hb, e⟩ := h.ok.has f hf
  obtain ⟨a, cap, hv, hc1, hc2, hc⟩ := (h.tx b hb).sl
  have ht := h.ok.text (f := f) hb e
  have h1 := (h.bc hb).1.2.1
  rw [hv] at h1
  rw [ht, ← e]
  exact ⟨_, a, cap, rfl, h.kb b hb, h1, h.ok.tx b hb, hc1, hc2, hc⟩
def nextR (fl : Nat → Bool) : List UInt8 → Nat → Nat × Nat
  | [], _ => (0, 22)
  | c :: r, i => if c.toNat = 12 then (if fl 1 then nextR fl r (i + 1) else (0, 22)) else if c.toNat = 10 then (if fl 2 then nextR fl r (i + 1) else (0, 22)) else (i, 0)
theorem str_inj {a b : ByteArray} (h : a.toList = b.toList) : a = b := by
  rw [ByteArray.toList_eq, ByteArray.toList_eq] at h
  cases a; cases b
  exact congrArg ByteArray.mk (Array.toList_inj.1 h)
theorem str_ne {a b : ByteArray} (h : ¬ a = b) : (a.toList == b.toList) = false := by
  rw [beq_eq_false_iff_ne]
  exact fun e => h (str_inj e)
/-- nothing but draws -/
def Rd (w w' : World) : Prop := ∃ q, w' = w.drewN q
theorem Rd.below {w w' : World} (h : Rd w w') : Below w.heap.size w w' := by
  obtain ⟨q, rfl⟩ := h
  exact pw_below_drewN (Below.refl _ _) q
theorem Rd.trans {a b c : World} (h : Rd a b) (k : Rd b c) : Rd a c := by
  obtain ⟨q, rfl⟩ := h
  obtain ⟨r, rfl⟩ := k
  exact ⟨q + r, by rw [World.drewN_drewN]⟩
theorem Rd.refl (w : World) : Rd w w := ⟨0, rfl⟩
theorem Rd.drew (w : World) : Rd w w.drew := ⟨1, rfl⟩
theorem quiet_rd {P : Program} {f : FuncId} {args : Array Value} {w : World} {n : Nat} {v : Value} (h : Calls P f args (w.drewN n) fun e w' => e = .returned v ∧ Rd (w.drewN n) w') : Calls P f args (w.drewN n) fun e w'' => e = .returned v ∧ ∃ m, w'' = w.drewN m := Calls.quiet_of h
theorem file_walk {κ : Nat → Tag} {L : Lay} {m : MW} (n : Int) (w : World) (h : WAt κ L w m) (r : Value) (hr : fileV L (m.file n) = r) : Calls Try.prog 41 #[pt L.p, .int .i64 n] w fun e w' => e = .returned r ∧ w = w' := by
  have H := Aside0.mk h
  obtain ⟨⟨z0, z1⟩, _, _⟩ := h.head
  have hrow := h.rowF
  have hlen : m.files.length ≤ 20 := h.ok.fs
  have HR := Aside0.mk hr
  clear h hr
  rcases hrow with ⟨hv, hn⟩ | ⟨g, cap, hv, hc⟩
  · have hm : m.file n = none := by rw [MW.file, hn]; rfl
    rw [hm] at HR
    obtain rfl := HR.out
    clear hn HR hm
    rw [hv] at z1
    unfold pt
    go_enter Try.func41, Try.ntmps41
    go_wp2
    go_loop [15] (fun i => i = .int .i64 0) (fun i => 0)
    case atStart => rfl
    case round =>
      obtain rfl := hrel
      go_wp2
      go_ret2
      exact ⟨rfl, rfl⟩
  · have HC := Aside0.mk hc
    clear hc
    rw [hv] at z1
    unfold pt
    go_enter Try.func41, Try.ntmps41
    go_wp2
    go_loop [15] (fun i => ∃ k : Nat, k ≤ m.files.length ∧ i = .int .i64 k ∧ Aside0 (∀ j (hj : j < m.files.length), j < k → ((m.files[j]).num : Int) ≠ n)) (fun i => m.files.length - (intOf i).toNat)
    case atStart => exact ⟨0, Nat.zero_le _, rfl, ⟨fun j _ hj => absurd hj (Nat.not_lt_zero _)⟩⟩
    case round =>
      obtain ⟨k, hk, rfl, HN⟩ := hrel
      by_cases hlt : k < m.files.length
      · have hc1 := HC.out k hlt
        have hf := (H.out.fc (List.getElem_mem hlt)).1.1
        by_cases he : ((m.files[k]).num : Int) = n
        · have h1 : m.file n = some m.files[k] := find?_at hlt (decide_eq_true he) fun j hj hjk => decide_eq_false (HN.out j hj hjk)
          rw [h1] at HR
          obtain rfl := HR.out
          clear h1 HR
          unfold pt at hc1
          generalize hfk : m.files[k] = f at *
          have HF := Aside0.mk hfk
          clear hfk
          go_wp2
          go_ret2
          exact ⟨by rw [HF.out]; rfl, rfl⟩
        · have HE := Aside0.mk he
          unfold pt at hc1
          generalize hfk : m.files[k] = f at *
          have HF := Aside0.mk hfk
          clear hfk
          go_wp2
          go_round
          case rel => exact ⟨k + 1, by omega, by go_num, ⟨fun j hj hjk => by
            rcases Nat.lt_or_ge j k with h1 | h1
            · exact HN.out j hj h1
            · obtain rfl : j = k := by omega
              rw [HF.out]; exact HE.out⟩⟩
          case measure => simp [intOf]; omega
      · have hm : m.file n = none := find?_no fun j hj => decide_eq_false (HN.out j hj (by omega))
        rw [hm] at HR
        obtain rfl := HR.out
        clear hm HR
        obtain rfl : k = m.files.length := by omega
        go_wp2
        go_ret2
        exact ⟨rfl, rfl⟩
theorem file_some {κ : Nat → Tag} {L : Lay} {m : MW} {n : Int} {w : World} (h : WAt κ L w m) {f : MFl} (hf : m.file n = some f) : Calls Try.prog 41 #[.pointer (some ⟨L.p, 0, none⟩), .int .i64 n] w fun e w' => e = .returned (.tuple #[.pointer (some ⟨L.fl f.num, 0, none⟩), .int .i64 0]) ∧ w = w' := file_walk n w h _ (by rw [hf]; rfl)
theorem file_none {κ : Nat → Tag} {L : Lay} {m : MW} {n : Int} {w : World} (h : WAt κ L w m) (hf : m.file n = none) : Calls Try.prog 41 #[.pointer (some ⟨L.p, 0, none⟩), .int .i64 n] w fun e w' => e = .returned (.tuple #[.pointer none, .int .i64 29]) ∧ w = w' := file_walk n w h _ (by rw [hf]; rfl)
theorem find_walk {κ : Nat → Tag} {L : Lay} {m : MW} (s : ByteArray) (w : World) (h : WAt κ L w m) (r : Value) (hr : findV L (m.find s) = r) : Calls Try.prog 26 #[pt L.p, .string s] w fun e w' => e = .returned r ∧ w = w' := by
  have H := Aside0.mk h
  obtain ⟨⟨z0, z1⟩, _, _⟩ := h.head
  have hrow := h.rowB
  have hlen : m.books.length ≤ 67 := h.ok.bs
  have HR := Aside0.mk hr
  clear h hr
  rcases hrow with ⟨hv, hn⟩ | ⟨g, cap, hv, hc⟩
  · have hm : m.find s = none := by rw [MW.find, hn]; rfl
    rw [hm] at HR
    obtain rfl := HR.out
    clear hn HR hm
    rw [hv] at z0
    unfold pt
    go_enter Try.func26, Try.ntmps26
    go_wp2
    go_loop [12] (fun i => i = .int .i64 0) (fun i => 0)
    case atStart => rfl
    case round =>
      obtain rfl := hrel
      go_wp2
      go_ret
      exact ⟨rfl, rfl⟩
  · have HC := Aside0.mk hc
    clear hc
    rw [hv] at z0
    unfold pt
    go_enter Try.func26, Try.ntmps26
    go_wp2
    go_loop [12] (fun i => ∃ k : Nat, k ≤ m.books.length ∧ i = .int .i64 k ∧ Aside0 (∀ j (hj : j < m.books.length), j < k → (m.books[j]).name ≠ s)) (fun i => m.books.length - (intOf i).toNat)
    case atStart => exact ⟨0, Nat.zero_le _, rfl, ⟨fun j _ hj => absurd hj (Nat.not_lt_zero _)⟩⟩
    case round =>
      obtain ⟨k, hk, rfl, HN⟩ := hrel
      by_cases hlt : k < m.books.length
      · have hc1 := HC.out k hlt
        have hf := (H.out.bc (List.getElem_mem hlt)).1.1
        by_cases he : (m.books[k]).name = s
        · have h1 : m.find s = some m.books[k] := find?_at hlt (decide_eq_true he) fun j hj hjk => decide_eq_false (HN.out j hj hjk)
          rw [h1] at HR
          obtain rfl := HR.out
          clear h1 HR
          unfold pt at hc1
          generalize hfk : m.books[k] = b at *
          have HF := Aside0.mk hfk
          clear hfk
          go_wp2
          go_ret
          exact ⟨by rw [HF.out]; rfl, rfl⟩
        · have HE := Aside0.mk he
          have hse := str_ne he
          unfold pt at hc1
          generalize hfk : m.books[k] = b at *
          have HF := Aside0.mk hfk
          clear hfk
          go_wp2
          go_round
          case rel => exact ⟨k + 1, by omega, by go_num, ⟨fun j hj hjk => by
            rcases Nat.lt_or_ge j k with h1 | h1
            · exact HN.out j hj h1
            · obtain rfl : j = k := by omega
              rw [HF.out]; exact HE.out⟩⟩
          case measure => simp [intOf]; omega
      · have hm : m.find s = none := find?_no fun j hj => decide_eq_false (HN.out j hj (by omega))
        rw [hm] at HR
        obtain rfl := HR.out
        clear hm HR
        obtain rfl : k = m.books.length := by omega
        go_wp2
        go_ret
        exact ⟨rfl, rfl⟩
theorem place_walk {κ : Nat → Tag} {L : Lay} {m : MW} {f : MFl} (w : World) (h : WAt κ L w m) (hf : f ∈ m.files) : Calls Try.prog 45 #[pt (L.fl f.num)] w fun e w' => e = .returned (.int .i64 (min f.pos (m.text f).length : Nat)) ∧ Rd w w' := by
  obtain ⟨z0, z1, z2, z3⟩ := (h.fc hf).1
  obtain ⟨g, a, cap, hg, hkg, t1, hl, hcl, hcm, hQ⟩ := h.ft hf
  clear hQ hkg hcl hcm
  have hp := (h.ok.pos f hf).2
  rw [hg] at z1
  clear h hf hg
  generalize m.text f = t at *
  generalize t.length = n at *
  generalize L.fl f.num = b at *
  generalize f.pos = p at *
  unfold pt
  go_enter Try.func45, Try.ntmps45
  go_wp2
  go_region
  go_wp2
  all_goals (go_ret; exact ⟨congrArg (fun z => Ending.returned (.int .i64 z)) (by omega), Rd.drew _⟩)
theorem tell_walk {κ : Nat → Tag} {L : Lay} {m : MW} {f : MFl} (ev : Nat) (w : World) (h : WAt κ L w m) (hf : f ∈ m.files) (he : ev < 6) : Calls Try.prog 44 #[pt (L.fl f.num), .int .i64 ev] w fun e w' => e = .returned (.int .i64 (if f.fl ev then 0 else 22)) ∧ w = w' := by
  obtain ⟨z0, _⟩ := h.flag hf ev he
  clear h hf
  generalize L.fl f.num = b at *
  generalize f.fl ev = v at *
  unfold pt
  cases v with
  | true =>
    go_enter Try.func44, Try.ntmps44
    go_wp2
    go_ret
    exact ⟨rfl, rfl⟩
  | false =>
    go_enter Try.func44, Try.ntmps44
    go_wp2
    go_ret
    exact ⟨rfl, rfl⟩
theorem u8_12 (c : UInt8) : ((c.toNat : Int) == 12) = decide (c.toNat = 12) := by
  by_cases h : c.toNat = 12
  · rw [h]; rfl
  · rw [decide_eq_false h]; exact beq_eq_false_iff_ne.2 (by omega)
theorem next_walk {κ : Nat → Tag} {L : Lay} {m : MW} {f : MFl} (w : World) (h : WAt κ L w m) (hf : f ∈ m.files) (at_ : Nat) (ha : at_ ≤ 1048576) (p e : Nat) (hr : nextR f.fl ((m.text f).drop at_) at_ = (p, e)) : Calls Try.prog 65 #[pt (L.fl f.num), .int .i64 at_] w fun e' w' => e' = .returned (.tuple #[.int .i64 p, .int .i64 e]) ∧ w = w' := by
  have H := Aside0.mk h
  have HF := Aside0.mk hf
  obtain ⟨z0, z1, z2, z3⟩ := (h.fc hf).1
  obtain ⟨g, a, cap, hg, hkg, t1, hl, hcl, hcm, hQ⟩ := h.ft hf
  rw [hg] at z1
  have HQ := Aside0.mk hQ
  have HR := Aside0.mk hr
  have HT1 := Aside0.mk (tell_walk (L := L) 1 w h hf (by omega))
  have HT2 := Aside0.mk (tell_walk (L := L) 2 w h hf (by omega))
  clear h hf hg hQ hr z0 z2 z3 hkg hcl hcm
  unfold pt at *
  generalize m.text f = t at *
  generalize L.fl f.num = b at *
  go_enter Try.func65, Try.ntmps65
  go_wp2
  go_loop [1] (fun i => ∃ k : Nat, i = .int .i64 k ∧ k ≤ 1048576 ∧ Aside0 (nextR f.fl (t.drop k) k = (p, e))) (fun i => 1048576 - (intOf i).toNat)
  case atStart => exact ⟨at_, rfl, ha, HR⟩
  case round =>
    obtain ⟨k, rfl, hk, HN⟩ := hrel
    by_cases hlt : k < t.length
    · obtain ⟨q, rfl, _, hc⟩ := HQ.out k hlt
      have hd : t.drop k = t[k] :: t.drop (k + 1) := List.drop_eq_getElem_cons hlt
      rw [hd] at HN
      clear hd
      generalize t[k] = c at *
      have hc0 : 0 ≤ c.toNat ∧ c.toNat ≤ 255 := ⟨Nat.zero_le _, by have := c.toNat_lt; omega⟩
      unfold nextR at HN
      generalize c.toNat = d at *
      by_cases h12 : d = 12
      · subst h12
        rw [if_pos rfl] at HN
        cases hfl : f.fl 1 with
        | true =>
          rw [hfl] at HN HT1
          go_wp2_with (go_at_call 44; refine HT1.out.mono ?_; rintro e w' ⟨rfl, rfl⟩)
          go_round
          case rel => exact ⟨k + 1, by go_num, by omega, ⟨by have := HN.out; simpa using this⟩⟩
          case measure => simp [intOf]; omega
        | false =>
          rw [hfl] at HN HT1
          obtain ⟨rfl, rfl⟩ : p = 0 ∧ e = 22 := by have := HN.out; simp at this; omega
          go_wp2_with (go_at_call 44; refine HT1.out.mono ?_; rintro e w' ⟨rfl, rfl⟩)
          go_ret2
          exact ⟨rfl, rfl⟩
      · have h12' : ¬ ((d : Int) = 12) := by omega
        rw [if_neg h12] at HN
        by_cases h10 : d = 10
        · subst h10
          rw [if_pos rfl] at HN
          cases hfl : f.fl 2 with
          | true =>
            rw [hfl] at HN HT2
            go_wp2_with (go_at_call 44; refine HT2.out.mono ?_; rintro e w' ⟨rfl, rfl⟩)
            go_round
            case rel => exact ⟨k + 1, by go_num, by omega, ⟨by have := HN.out; simpa using this⟩⟩
            case measure => simp [intOf]; omega
          | false =>
            rw [hfl] at HN HT2
            obtain ⟨rfl, rfl⟩ : p = 0 ∧ e = 22 := by have := HN.out; simp at this; omega
            go_wp2_with (go_at_call 44; refine HT2.out.mono ?_; rintro e w' ⟨rfl, rfl⟩)
            go_ret2
            exact ⟨rfl, rfl⟩
        · have h10' : ¬ ((d : Int) = 10) := by omega
          rw [if_neg h10] at HN
          obtain ⟨rfl, rfl⟩ : k = p ∧ e = 0 := by have := HN.out; simp at this; omega
          go_wp2
          go_ret2
          exact ⟨rfl, rfl⟩
    · have hd : t.drop k = [] := List.drop_eq_nil_of_le (by omega)
      rw [hd] at HN
      obtain ⟨rfl, rfl⟩ : p = 0 ∧ e = 22 := by have := HN.out; simp [nextR] at this; omega
      clear hd
      go_wp2
      go_ret2
      exact ⟨rfl, rfl⟩
def MW.read (m : MW) (n : Int) (mv : Bool) : MW × Int × Int :=
  match m.file n with
  | none => (m, 0, 29)
  | some f => if n = 2 then (m, 0, 31) else
    match nextR f.fl ((m.text f).drop f.pos) f.pos with
    | (p, 0) => (m.setF { f with pos := if mv then p + 1 else p, mood := 1 }, (((m.text f).getD p 0).toNat : Int), 0)
    | (_, e + 1) => (m, 0, (e + 1 : Nat))
theorem nextR_lt (fl : Nat → Bool) : ∀ (l : List UInt8) (i p : Nat), nextR fl l i = (p, 0) → i ≤ p ∧ p < i + l.length
  | [], i, p, h => by simp [nextR] at h
  | c :: r, i, p, h => by
    unfold nextR at h
    have ih := nextR_lt fl r (i + 1) p
    rw [List.length_cons]
    split at h
    · split at h
      · have := ih h; omega
      · simp at h
    · split at h
      · split at h
        · have := ih h; omega
        · simp at h
      · simp at h; omega
theorem setF_setF (m : MW) (f g : MFl) (e : f.num = g.num) : (m.setF f).setF g = m.setF g := by
  unfold MW.setF
  simp only [List.map_map]
  congr 1
  refine List.map_congr_left fun x _ => ?_
  show (if (if x.num = f.num then f else x).num = g.num then g else (if x.num = f.num then f else x)) = if x.num = g.num then g else x
  by_cases h : x.num = f.num
  · rw [if_pos h, if_pos e, if_pos (h.trans e)]
  · rw [if_neg h]
/-- place and mood of a file are stored -/
theorem WAt.put23 {κ : Nat → Tag} {L : Lay} {w : World} {m : MW} (h : WAt κ L w m) {f : MFl} (hf : f ∈ m.files) (p q : Nat) (hp : p ≤ 1048576) :
    St κ w κ L ((w.setCell ⟨L.fl f.num, 2, none⟩ (.int .i64 p)).setCell ⟨L.fl f.num, 3, none⟩ (.int .i64 q)) (m.setF { f with pos := p, mood := q }) := by
  have hc := blk_put (blk_put (h.hf f hf) 2 (.int .i64 (p : Int)) (cs' := L.fcells { f with pos := p }) rfl) 3 (.int .i64 (q : Int)) (cs' := L.fcells { f with pos := p, mood := q }) rfl
  have ho : ∀ k, k ≠ L.fl f.num → ((w.setCell ⟨L.fl f.num, 2, none⟩ (.int .i64 p)).setCell ⟨L.fl f.num, 3, none⟩ (.int .i64 q)).heap[k]? = w.heap[k]? := fun k hk => (Below.heap_setCell _ _ _ _ hk).trans (Below.heap_setCell _ _ _ _ hk)
  have hs : ((w.setCell ⟨L.fl f.num, 2, none⟩ (.int .i64 p)).setCell ⟨L.fl f.num, 3, none⟩ (.int .i64 q)).heap.size = w.heap.size := by simp [World.setCell]
  exact ⟨h.setF hf rfl rfl hp hc ho hs, Nx.set (g := L.fl f.num) (by rw [h.kf f hf]; exact Tag.noConfusion) rfl rfl rfl ho hs⟩
theorem WAt.put2 {κ : Nat → Tag} {L : Lay} {w : World} {m : MW} (h : WAt κ L w m) {f : MFl} (hf : f ∈ m.files) (p : Nat) (hp : p ≤ 1048576) :
    St κ w κ L (w.setCell ⟨L.fl f.num, 2, none⟩ (.int .i64 p)) (m.setF { f with pos := p }) := by
  have hc := blk_put (h.hf f hf) 2 (.int .i64 (p : Int)) (cs' := L.fcells { f with pos := p }) rfl
  have ho : ∀ k, k ≠ L.fl f.num → (w.setCell ⟨L.fl f.num, 2, none⟩ (.int .i64 p)).heap[k]? = w.heap[k]? := fun k hk => Below.heap_setCell _ _ _ _ hk
  have hs : (w.setCell ⟨L.fl f.num, 2, none⟩ (.int .i64 p)).heap.size = w.heap.size := by simp [World.setCell]
  exact ⟨h.setF hf rfl rfl hp hc ho hs, Nx.set (g := L.fl f.num) (by rw [h.kf f hf]; exact Tag.noConfusion) rfl rfl rfl ho hs⟩
theorem read_walk {κ : Nat → Tag} {L : Lay} {m m' : MW} (n : Int) (mv : Bool) (w : World) (h : WAt κ L w m) (v e : Int) (hr : m.read n mv = (m', v, e)) : Calls Try.prog 51 #[pt L.p, .int .i64 n, .bool mv] w fun x w' => x = .returned (.tuple #[.int .i64 v, .int .i64 e]) ∧ St κ w κ L w' m' := by
  have H := Aside0.mk h
  have HF := Aside0.mk (file_walk n w h _ rfl)
  unfold MW.read at hr
  unfold pt at *
  cases hfile : m.file n with
  | none =>
    rw [hfile] at hr HF
    simp only [Prod.mk.injEq] at hr
    obtain ⟨rfl, rfl, rfl⟩ := hr
    clear h hfile
    unfold fileV at HF
    go_enter Try.func51, Try.ntmps51
    go_wp2_with (go_at_call 41; refine HF.out.mono ?_; rintro e w' ⟨rfl, rfl⟩)
    go_ret2
    exact ⟨rfl, H.out.st⟩
  | some f =>
    rw [hfile] at hr HF
    obtain ⟨hf, hnum⟩ := MW.file_mem hfile
    have HM := Aside0.mk hf
    unfold fileV pt at HF
    by_cases h2 : n = 2
    · subst h2
      simp only [if_pos, Prod.mk.injEq] at hr
      obtain ⟨rfl, rfl, rfl⟩ := hr
      clear h hfile hf hnum
      go_enter Try.func51, Try.ntmps51
      go_wp2_with (go_at_call 41; refine HF.out.mono ?_; rintro e w' ⟨rfl, rfl⟩)
      go_ret2
      exact ⟨rfl, H.out.st⟩
    · simp only [if_neg h2] at hr
      obtain ⟨z0, z1, z2, z3⟩ := (h.fc hf).1
      obtain ⟨p, e0, hne⟩ : ∃ p e0, nextR f.fl ((m.text f).drop f.pos) f.pos = (p, e0) := ⟨_, _, rfl⟩
      have HN := Aside0.mk (next_walk w h hf f.pos (h.ok.pos f hf).2 p e0 hne)
      unfold pt at HN
      rw [hne] at hr
      cases e0 with
      | succ e1 =>
        simp only [Prod.mk.injEq] at hr
        obtain ⟨rfl, rfl, rfl⟩ := hr
        clear h hfile hf hnum hne
        have h1 : ¬ (((e1 + 1 : Nat) : Int) = 0) := by omega
        go_enter Try.func51, Try.ntmps51
        go_wp2_with (first | (go_at_call 41; refine HF.out.mono ?_; rintro e w' ⟨rfl, rfl⟩) | (go_at_call 65; refine HN.out.mono ?_; rintro e w' ⟨rfl, rfl⟩))
        go_ret2
        exact ⟨rfl, H.out.st⟩
      | zero =>
        simp only [Prod.mk.injEq] at hr
        obtain ⟨rfl, rfl, rfl⟩ := hr
        have hlt := nextR_lt _ _ _ _ hne
        rw [List.length_drop] at hlt
        obtain ⟨g, a, cap, hg, hkg, t1, hl, hcl, hcm, hQ⟩ := h.ft hf
        obtain ⟨q, rfl, hkq, hc⟩ := hQ p (by omega)
        have hgd : (m.text f).getD p 0 = (m.text f)[p]'(by omega) := by rw [List.getD_eq_getElem?_getD, List.getElem?_eq_getElem (by omega)]; rfl
        rw [hgd]
        have hbg : g ≠ L.fl f.num := tne hkg (h.kf f hf) Tag.noConfusion
        have hbq : q ≠ L.fl f.num := tne hkq (h.kf f hf) Tag.noConfusion
        have f2 := (h.fc hf).2.1
        have f3 := (h.fc hf).2.2
        have hp1 : p + 1 ≤ 1048576 := by omega
        have HP1 := Aside0.mk ((h.put23 hf p 1 (by omega)))
        rw [hg] at z1
        have HP2 : St κ w κ L (((w.setCell ⟨L.fl f.num, 2, none⟩ (.int .i64 p)).setCell ⟨L.fl f.num, 3, none⟩ (.int .i64 1)).setCell ⟨L.fl f.num, 2, none⟩ (.int .i64 (p + 1 : Nat))) (m.setF { f with pos := p + 1, mood := 1 }) := by
          rw [← setF_setF m { f with pos := p, mood := 1 } { f with pos := p + 1, mood := 1 } rfl]
          exact HP1.out.then ((HP1.out.1).put2 (setF_mem hf rfl) (p + 1) hp1)
        have HE' := Aside0.mk HP2
        clear HP2
        generalize (m.text f)[p]'(by omega) = c at *
        have hcb : c.toNat ≤ 255 := by have := c.toNat_lt; omega
        generalize c.toNat = d at *
        clear hfile hf hnum hne hg hkg hkq hQ hgd h hcl hcm
        cases mv with
        | false =>
          have HE := HP1
          clear HP1 HE'
          go_enter Try.func51, Try.ntmps51
          go_wp2_with (first | (go_at_call 41; refine HF.out.mono ?_; rintro e w' ⟨rfl, rfl⟩) | (go_at_call 65; refine HN.out.mono ?_; rintro e w' ⟨rfl, rfl⟩))
          go_ret2
          exact ⟨rfl, HE.out⟩
        | true =>
          clear HP1
          go_enter Try.func51, Try.ntmps51
          go_wp2_with (first | (go_at_call 41; refine HF.out.mono ?_; rintro e w' ⟨rfl, rfl⟩) | (go_at_call 65; refine HN.out.mono ?_; rintro e w' ⟨rfl, rfl⟩))
          go_ret2
          exact ⟨rfl, HE'.out⟩
theorem get_walk {κ : Nat → Tag} {L : Lay} {m m' : MW} (n : Int) (w : World) (h : WAt κ L w m) (v e : Int) (hr : m.read n true = (m', v, e)) : Calls Try.prog 18 #[pt L.p, .int .i64 n] w fun x w' => x = .returned (.tuple #[.int .i64 v, .int .i64 e]) ∧ St κ w κ L w' m' := by
  have HR := Aside0.mk (read_walk n true w h v e hr)
  clear h hr
  unfold pt at *
  go_enter Try.func18, Try.ntmps18
  go_wp2_with (go_at_call 51; refine HR.out.mono ?_; rintro e w' ⟨rfl, HS⟩)
  go_ret2
  exact ⟨rfl, HS⟩
def beginR (t : List UInt8) : Nat → Nat
  | 0 => 0
  | i + 1 => if (t.getD i 0).toNat = 10 ∨ (t.getD i 0).toNat = 12 then i + 1 else beginR t i
theorem begin_walk {κ : Nat → Tag} {L : Lay} {m : MW} {f : MFl} (w : World) (h : WAt κ L w m) (hf : f ∈ m.files) (r : Nat) (hr : beginR (m.text f) (min f.pos (m.text f).length) = r) : Calls Try.prog 46 #[pt (L.fl f.num)] w fun e w' => e = .returned (.int .i64 r) ∧ Rd w w' := by
  have HP := Aside0.mk (place_walk w h hf)
  have H := Aside0.mk h
  clear h
  unfold pt at *
  go_enter Try.func46, Try.ntmps46
  go_wp2_with fail
  refine HP.out.mono ?_
  rintro e w1 ⟨rfl, hb⟩
  have H1 := H.out.below hb.below
  have HB := Aside0.mk hb
  obtain ⟨z0, z1, z2, z3⟩ := (H1.fc hf).1
  obtain ⟨g, a, cap, hg, hkg, t1, hl, hcl, hcm, hQ⟩ := H1.ft hf
  rw [hg] at z1
  have HQ := Aside0.mk hQ
  have hk : min f.pos (m.text f).length ≤ (m.text f).length := Nat.min_le_right _ _
  clear hb H1 H HP hf hQ hg hkg hcl hcm z0 z2 z3
  generalize m.text f = t at *
  generalize min f.pos t.length = k0 at *
  generalize L.fl f.num = b at *
  have HR := Aside0.mk hr
  clear hr
  go_wp2
  go_loop [3] (fun i => ∃ k : Nat, i = .int .i64 k ∧ k ≤ t.length ∧ Aside0 (beginR t k = r)) (fun i => (intOf i).toNat)
  case atStart => exact ⟨k0, rfl, hk, HR⟩
  case round =>
    obtain ⟨k, rfl, hk1, HK⟩ := hrel
    cases k with
    | zero =>
      obtain rfl := HK.out
      clear HK
      go_wp2
      go_ret
      exact ⟨by first | rfl | go_num, HB.out⟩
    | succ k =>
      obtain ⟨q, rfl, _, hc⟩ := HQ.out k (by omega)
      have hgd : t.getD k 0 = t[k]'(by omega) := by rw [List.getD_eq_getElem?_getD, List.getElem?_eq_getElem (by omega)]; rfl
      unfold beginR at HK
      rw [hgd] at HK
      clear hgd
      generalize t[k]'(by omega) = c at *
      have hc0 : c.toNat ≤ 255 := by have := c.toNat_lt; omega
      generalize c.toNat = d at *
      by_cases h1 : d = 10 ∨ d = 12
      · rw [if_pos h1] at HK
        obtain rfl := HK.out
        clear HK
        rcases h1 with rfl | rfl
        · go_wp2
          go_ret
          exact ⟨by first | rfl | go_num, HB.out⟩
        · go_wp2
          go_ret
          exact ⟨by first | rfl | go_num, HB.out⟩
      · rw [if_neg h1] at HK
        have h10 : ¬ ((d : Int) = 10) := by omega
        have h12 : ¬ ((d : Int) = 12) := by omega
        have b10 : ((d : Int) != 10) = true := bne_iff_ne.2 h10
        have b12 : ((d : Int) != 12) = true := bne_iff_ne.2 h12
        clear h1 h10 h12
        go_wp2
        go_round
        case rel => exact ⟨k, by go_num, by omega, HK⟩
        case measure => simp [intOf]
def posR : List UInt8 → Nat → Nat → Nat × Nat
  | [], p, l => (p, l)
  | c :: r, p, l => if c.toNat = 12 then posR r (p + 1) 1 else if c.toNat = 10 then posR r p (l + 1) else posR r p l
def MW.position (m : MW) (n : Int) : Int × Int × Int × Int :=
  match m.file n with
  | none => (0, 0, 0, 29)
  | some f => ((posR ((m.text f).take (min f.pos (m.text f).length)) 1 1).1, (posR ((m.text f).take (min f.pos (m.text f).length)) 1 1).2,
      ((min f.pos (m.text f).length - beginR (m.text f) (min f.pos (m.text f).length) + 1 : Nat) : Int), 0)
theorem beginR_le (t : List UInt8) : ∀ i, beginR t i ≤ i
  | 0 => Nat.le_refl _
  | i + 1 => by
    unfold beginR
    split
    · exact Nat.le_refl _
    · exact Nat.le_succ_of_le (beginR_le t i)
theorem position_walk {κ : Nat → Tag} {L : Lay} {m : MW} (n : Int) (w : World) (h : WAt κ L w m) (p l c e : Int) (hr : m.position n = (p, l, c, e)) : Calls Try.prog 23 #[pt L.p, .int .i64 n] w fun x w' => x = .returned (.tuple #[.int .i64 p, .int .i64 l, .int .i64 c, .int .i64 e]) ∧ Rd w w' := by
  have H := Aside0.mk h
  unfold MW.position at hr
  unfold pt at *
  cases hfile : m.file n with
  | none =>
    have HF := Aside0.mk (file_none h hfile)
    rw [hfile] at hr
    simp only [Prod.mk.injEq] at hr
    obtain ⟨rfl, rfl, rfl, rfl⟩ := hr
    clear h hfile
    go_enter Try.func23, Try.ntmps23
    go_wp2_with (go_at_call 41; refine HF.out.mono ?_; rintro e w' ⟨rfl, rfl⟩)
    refine bodyPost_ret (v := .tuple #[.int .i64 0, .int .i64 0, .int .i64 0, .int .i64 29]) (by simp [results, Try.results23, go_sem]) rfl ⟨rfl, Rd.refl _⟩
  | some f =>
    have HF := Aside0.mk (file_some h hfile)
    rw [hfile] at hr
    obtain ⟨hf, hnum⟩ := MW.file_mem hfile
    simp only [Prod.mk.injEq] at hr
    obtain ⟨z0, z1, z2, z3⟩ := (h.fc hf).1
    obtain ⟨g, a, cap, hg, hkg, t1, hl, hcl, hcm, hQ⟩ := h.ft hf
    rw [hg] at z1
    have HQ := Aside0.mk hQ
    have HP := Aside0.mk (fun (w1 : World) (hr : Rd w w1) => place_walk w1 (h.below hr.below) hf)
    have HG := Aside0.mk (fun (w1 : World) (hr : Rd w w1) => begin_walk w1 (h.below hr.below) hf _ rfl)
    have hkk : min f.pos (m.text f).length ≤ (m.text f).length := Nat.min_le_right _ _
    have hbl := beginR_le (m.text f) (min f.pos (m.text f).length)
    unfold pt at HP HG
    clear h hfile hf hnum hg hkg hQ z0 z2 z3
    have HR := Aside0.mk hr
    clear hr
    generalize m.text f = t at *
    generalize min f.pos t.length = k0 at *
    generalize beginR t k0 = k1 at *
    generalize L.fl f.num = b at *
    have hkc : k0 ≤ cap := Nat.le_trans hkk hcl
    have hcm2 : cap ≤ 9223372036854775807 := hcm
    generalize hRR : posR (t.take k0) 1 1 = R at *
    have HRR := Aside0.mk hRR
    clear hRR
    go_enter Try.func23, Try.ntmps23
    cases a with
    | none =>
      have ht0 : t.length = 0 := by
        rcases Nat.eq_zero_or_pos t.length with h0 | h0
        · exact h0
        · obtain ⟨q, hq, _⟩ := HQ.out 0 h0
          exact absurd hq (fun h => by cases h)
      obtain rfl : k0 = 0 := by omega
      obtain rfl : k1 = 0 := by omega
      obtain rfl := HRR.out
      clear HRR
      obtain ⟨rfl, rfl, rfl, rfl⟩ := HR.out
      clear HR HQ
      go_wp2_with (go_at_call 41; refine HF.out.mono ?_; rintro e w' ⟨rfl, rfl⟩)
      go_quiet ((go_at_call 45; exact quiet_rd (HP.out _ ⟨_, rfl⟩)))
      go_wp2
      go_loop [4, 5, 31] (fun P L i => P = .int .i64 1 ∧ L = .int .i64 1 ∧ i = .int .i64 0) (fun _ _ _ => 0)
      case atStart => exact ⟨rfl, rfl, rfl⟩
      case round =>
        obtain ⟨rfl, rfl, rfl⟩ := hrel
        go_wp2_with (first | (go_at_call 45; refine (HP.out _ ⟨_, rfl⟩).mono ?_; rintro e w1 ⟨rfl, hr1⟩) | (go_at_call 46; refine (HG.out _ (Rd.trans ⟨_, rfl⟩ hr1)).mono ?_; rintro e w2 ⟨rfl, hr2⟩))
        refine bodyPost_ret (v := .tuple #[.int .i64 1, .int .i64 1, .int .i64 1, .int .i64 0]) (by simp [results, Try.results23, go_sem]) rfl ⟨by simp [posR], Rd.trans ⟨_, rfl⟩ (hr1.trans hr2)⟩
    | some a =>
      go_wp2_with (go_at_call 41; refine HF.out.mono ?_; rintro e w' ⟨rfl, rfl⟩)
      go_quiet ((go_at_call 45; exact quiet_rd (HP.out _ ⟨_, rfl⟩)))
      go_wp2
      go_loop [4, 5, 31] (fun P L i => ∃ (k P' L' : Nat), i = .int .i64 k ∧ P = .int .i64 P' ∧ L = .int .i64 L' ∧ k ≤ k0 ∧ P' ≤ k + 1 ∧ L' ≤ k + 1 ∧ Aside0 (posR ((t.take k0).drop k) P' L' = R)) (fun _ _ i => k0 - (intOf i).toNat)
      case atStart => exact ⟨0, 1, 1, rfl, rfl, rfl, by omega, by omega, by omega, HRR⟩
      case round =>
        obtain ⟨k, P, L', rfl, rfl, rfl, hk, hP, hL, HK⟩ := hrel
        by_cases hlt : k < k0
        · obtain ⟨q, hq, _, hc⟩ := HQ.out k (by omega)
          obtain rfl : a = ⟨q, 0, none⟩ := Option.some.inj hq
          clear hq
          have hd : (t.take k0).drop k = t[k]'(by omega) :: (t.take k0).drop (k + 1) := by
            rw [List.drop_eq_getElem_cons (by rw [List.length_take]; omega), List.getElem_take]
          rw [hd] at HK
          clear hd
          generalize t[k]'(by omega) = ch at *
          have hc0 : ch.toNat ≤ 255 := by have := ch.toNat_lt; omega
          unfold posR at HK
          generalize ch.toNat = d at *
          by_cases h12 : d = 12
          · subst h12
            rw [if_pos rfl] at HK
            go_wp2
            go_round
            case rel => exact ⟨k + 1, P + 1, 1, by go_num, by go_num, rfl, by omega, by omega, by omega, HK⟩
            case measure => simp [intOf]; omega
          · rw [if_neg h12] at HK
            have h12' : ¬ ((d : Int) = 12) := by omega
            by_cases h10 : d = 10
            · subst h10
              rw [if_pos rfl] at HK
              go_wp2
              go_round
              case rel => exact ⟨k + 1, P, L' + 1, by go_num, rfl, by go_num, by omega, by omega, by omega, HK⟩
              case measure => simp [intOf]; omega
            · rw [if_neg h10] at HK
              have h10' : ¬ ((d : Int) = 10) := by omega
              go_wp2
              go_round
              case rel => exact ⟨k + 1, P, L', by go_num, rfl, rfl, by omega, by omega, by omega, HK⟩
              case measure => simp [intOf]; omega
        · obtain rfl : k = k0 := by omega
          have hd : (t.take k).drop k = [] := List.drop_eq_nil_of_le (by rw [List.length_take]; omega)
          rw [hd] at HK
          unfold posR at HK
          obtain rfl := HK.out
          clear HK hd HRR
          obtain ⟨rfl, rfl, rfl, rfl⟩ := HR.out
          clear HR
          go_wp2_with (first | (go_at_call 45; refine (HP.out _ ⟨_, rfl⟩).mono ?_; rintro e w1 ⟨rfl, hr1⟩) | (go_at_call 46; refine (HG.out _ (Rd.trans ⟨_, rfl⟩ hr1)).mono ?_; rintro e w2 ⟨rfl, hr2⟩))
          refine bodyPost_ret (v := .tuple #[.int .i64 P, .int .i64 L', .int .i64 (k - k1 + 1 : Nat), .int .i64 0]) (by simp [results, Try.results23, go_sem]; omega) rfl ⟨rfl, Rd.trans ⟨_, rfl⟩ (hr1.trans hr2)⟩
def namedB (s : ByteArray) : Bool := s.data.toList.all (fun c => decide (33 ≤ c.toNat ∧ c.toNat ≤ 126)) && decide (s.size ≠ 0) && decide (s.size ≤ 40)
theorem str_emp (s : ByteArray) : s.toList.isEmpty = decide (s.size = 0) := by
  rw [ByteArray.toList_eq]
  have h1 : s.size = s.data.toList.length := by simp
  rw [h1]
  cases s.data.toList with
  | nil => rfl
  | cons c r => rfl
theorem plain_walk (c : Int) (w : World) : Calls Try.prog 43 #[.int .i64 c] w fun e w' => e = .returned (.bool (decide (32 ≤ c ∧ c ≤ 126))) ∧ w = w' := by
  by_cases h1 : 32 ≤ c
  · by_cases h2 : c ≤ 126
    · rw [decide_eq_true ⟨h1, h2⟩]
      go_enter Try.func43, Try.ntmps43
      go_wp2
      go_ret
      exact ⟨rfl, rfl⟩
    · rw [decide_eq_false (fun h => h2 h.2)]
      go_enter Try.func43, Try.ntmps43
      go_wp2
      go_ret
      exact ⟨rfl, rfl⟩
  · rw [decide_eq_false (fun h => h1 h.1)]
    go_enter Try.func43, Try.ntmps43
    go_wp2
    go_ret
    exact ⟨rfl, rfl⟩
theorem named_walk (s : ByteArray) (w : World) (hs : s.size ≤ 9223372036854775807) (r : Bool) (hr : namedB s = r) : Calls Try.prog 40 #[.string s] w fun e w' => e = .returned (.bool r) ∧ Below w.heap.size w w' := by
  have hconv := Lib.run_convert_string_bytes (P := Try.prog) w 9 60 5 s Try.underlying9 Try.underlying60 Try.underlying5
  have HC : Aside0 (∀ j, j < s.size → (Lib.bytesWorld w 5 s).cell? ⟨w.heap.size, j, none⟩ = some (.int .u8 (s.data.toList.getD j 0).toNat)) := ⟨fun j hj => Lib.bytesWorld_cell w 5 s j hj⟩
  have HB : Aside0 (Below w.heap.size w (Lib.bytesWorld w 5 s)) := ⟨⟨rfl, rfl, rfl, by rw [Lib.bytesWorld_size]; omega, fun k hk => Lib.bytesWorld_at_old w 5 s k hk⟩⟩
  have hlen : s.data.toList.length = s.size := by simp
  have HL := Aside0.mk hlen
  have HR := Aside0.mk hr
  clear hlen hr
  generalize hW : Lib.bytesWorld w 5 s = W at *
  have HW := Aside0.mk hW
  clear hW
  go_enter Try.func40, Try.ntmps40
  go_wp2
  go_loop [8] (fun i => ∃ k : Nat, k ≤ s.size ∧ i = .int .i64 k ∧ Aside0 ((s.data.toList.take k).all (fun c => decide (33 ≤ c.toNat ∧ c.toNat ≤ 126)) = true)) (fun i => s.size - (intOf i).toNat)
  case atStart => exact ⟨0, Nat.zero_le _, rfl, ⟨by simp⟩⟩
  case round =>
    obtain ⟨k, hk, rfl, HK⟩ := hrel
    by_cases hlt : k < s.size
    · have hc := HC.out k hlt
      have hsn : s.data.toList.take (k + 1) = s.data.toList.take k ++ [s.data.toList.getD k 0] := by
        rw [List.take_succ_eq_append_getElem (by rw [HL.out]; exact hlt), List.getD_eq_getElem?_getD, List.getElem?_eq_getElem (by rw [HL.out]; exact hlt)]; rfl
      have hmem : s.data.toList.getD k 0 ∈ s.data.toList := by
        rw [List.getD_eq_getElem?_getD, List.getElem?_eq_getElem (by rw [HL.out]; exact hlt)]; exact List.getElem_mem _
      have HSN := Aside0.mk hsn
      have HME := Aside0.mk hmem
      clear hsn hmem
      generalize s.data.toList.getD k 0 = c at *
      have hc0 : c.toNat ≤ 255 := by have := c.toNat_lt; omega
      by_cases h1 : c.toNat < 33
      · have hf : namedB s = false := by
          unfold namedB
          rw [Bool.and_eq_false_iff, Bool.and_eq_false_iff]
          exact .inl (.inl (List.all_eq_false.2 ⟨c, HME.out, by simp; omega⟩))
        obtain rfl : false = r := hf.symm.trans HR.out
        clear hf
        generalize c.toNat = d at *
        go_wp2
        go_ret
        exact ⟨rfl, HB.out⟩
      · by_cases h2 : 126 < c.toNat
        · have hf : namedB s = false := by
            unfold namedB
            rw [Bool.and_eq_false_iff, Bool.and_eq_false_iff]
            exact .inl (.inl (List.all_eq_false.2 ⟨c, HME.out, by simp; omega⟩))
          obtain rfl : false = r := hf.symm.trans HR.out
          clear hf
          generalize c.toNat = d at *
          go_wp2
          go_ret
          exact ⟨rfl, HB.out⟩
        · have HA : Aside0 ((s.data.toList.take (k + 1)).all (fun c => decide (33 ≤ c.toNat ∧ c.toNat ≤ 126)) = true) := ⟨by
            rw [HSN.out, List.all_append, HK.out]
            simp; omega⟩
          generalize c.toNat = d at *
          go_wp2
          go_round
          case rel => exact ⟨k + 1, by omega, by go_num, HA⟩
          case measure => simp [intOf]; omega
    · obtain rfl : k = s.size := by omega
      have ht : s.data.toList.take s.size = s.data.toList := List.take_of_length_le (by rw [HL.out]; exact Nat.le_refl _)
      rw [ht] at HK
      have hr2 : (decide (s.size ≠ 0) && decide (s.size ≤ 40)) = r := by
        rw [← HR.out]; unfold namedB; rw [HK.out, Bool.true_and]
      clear ht HK HR
      have hemp := str_emp s
      by_cases h0 : s.size = 0
      · obtain rfl : false = r := by rw [← hr2]; simp [h0]
        rw [decide_eq_true h0] at hemp
        clear hr2
        go_wp2
        go_ret
        exact ⟨rfl, HB.out⟩
      · rw [decide_eq_false h0] at hemp
        by_cases h40 : s.size ≤ 40
        · obtain rfl : true = r := by rw [← hr2]; simp [h0, h40]
          clear hr2
          go_wp2
          go_ret
          exact ⟨congrArg (fun b => Ending.returned (.bool b)) (decide_eq_true (by omega)), HB.out⟩
        · obtain rfl : false = r := by rw [← hr2]; simp [h40]
          clear hr2
          go_wp2
          go_ret
          exact ⟨congrArg (fun b => Ending.returned (.bool b)) (decide_eq_false (by omega)), HB.out⟩
/-- a book as the callers hand it in -/
structure ABk where
  name : ByteArray
  text : ByteArray
  write : Bool
def ABk.cells (b : ABk) : Array Value := #[.string b.name, .string b.text, .bool b.write]
/-- the cells of a slice of such books -/
def AAt (w : World) (a : Option Addr) (bs : List ABk) : Prop :=
  ∀ i (hi : i < bs.length), ∃ g o, a = some ⟨g, o, none⟩ ∧ w.cell? ⟨g, o + i * 3, none⟩ = some (.string (bs[i]'hi).name) ∧ w.cell? ⟨g, o + i * 3 + 1, none⟩ = some (.string (bs[i]'hi).text) ∧ w.cell? ⟨g, o + i * 3 + 2, none⟩ = some (.bool (bs[i]'hi).write)
theorem AAt.below {w w' : World} {a : Option Addr} {bs : List ABk} (h : AAt w a bs) (hb : Below w.heap.size w w') : AAt w' a bs := by
  intro i hi
  obtain ⟨g, o, ha, h0, h1, h2⟩ := h i hi
  exact ⟨g, o, ha, (hb.cell (World.block_lt_of_cell? w _ h0)).trans h0, (hb.cell (World.block_lt_of_cell? w _ h1)).trans h1, (hb.cell (World.block_lt_of_cell? w _ h2)).trans h2⟩
theorem AAt.take {w : World} {a : Option Addr} {bs : List ABk} (h : AAt w a bs) (n : Nat) : AAt w a (bs.take n) := by
  intro i hi
  have hi' : i < bs.length := by rw [List.length_take] at hi; omega
  rw [List.getElem_take]
  exact h i hi'
theorem same_walk (x : ABk) (bb : Nat) (nm : ByteArray) (w : World) (h : w.cell? ⟨bb, 0, none⟩ = some (.string nm)) : Calls Try.prog 55 #[.agg #[.string x.name, .string x.text, .bool x.write], .pointer (some ⟨bb, 0, none⟩)] w fun e w' => e = .returned (.bool (x.name.toList == nm.toList)) ∧ Below w.heap.size w w' := by
  have hlt : bb < w.heap.size := World.block_lt_of_cell? w _ h
  have hne : bb ≠ w.heap.size := by omega
  go_enter Try.func55, Try.ntmps55
  go_wp2
  go_ret
  exact ⟨rfl, below_alloc (Below.refl _ _) _⟩
theorem idx_same (nm : ByteArray) (bb : Nat) (bs : List ABk) (a : Option Addr) (cap : Nat) (w : World) (hlen : bs.length ≤ 100) (hA : AAt w a bs) (h : w.cell? ⟨bb, 0, none⟩ = some (.string nm)) (R : Bool) (hR : (bs.any fun x => x.name.toList == nm.toList) = R) :
    Calls Try.prog 24 #[.slice a bs.length cap, .func (.func 55) #[] #[.pointer (some ⟨bb, 0, none⟩)]] w fun e w' => (∃ r : Int, e = .returned (.int .i64 r) ∧ decide (0 ≤ r) = R) ∧ Below w.heap.size w w' := by
  have HA := Aside0.mk hA
  have hbb : bb < w.heap.size := World.block_lt_of_cell? w _ h
  have HH := Aside0.mk h
  have HR := Aside0.mk hR
  clear hA h hR
  have HB0 := Aside0.mk (Below.refl w.heap.size w)
  go_enter Try.func24, Try.ntmps24
  go_wp2
  go_loopw [8] (fun i wr => ∃ k : Nat, k ≤ bs.length ∧ i = .int .i64 k ∧ Aside0 (Below w.heap.size w wr) ∧ Aside0 ((bs.take k).any (fun x => x.name.toList == nm.toList) = false)) (fun i _ => bs.length - (intOf i).toNat)
  case atStart => exact ⟨0, Nat.zero_le _, rfl, HB0, ⟨by simp⟩⟩
  case round =>
    obtain ⟨k, hk, rfl, HB, HK⟩ := hrel
    by_cases hlt : k < bs.length
    · obtain ⟨g, o, rfl, h0, h1, h2⟩ := (HA.out.below HB.out) k hlt
      have hc := (HB.out.cell (p := ⟨bb, 0, none⟩) hbb).trans HH.out
      have hsn : (bs.take (k + 1)).any (fun x => x.name.toList == nm.toList) = (bs[k].name.toList == nm.toList) := by
        rw [List.take_succ_eq_append_getElem hlt, List.any_append, HK.out]; simp
      have HSN := Aside0.mk hsn
      have HM := Aside0.mk (List.getElem_mem hlt)
      clear hsn
      generalize bs[k] = x at *
      have HC := Aside0.mk (same_walk x bb nm wr hc)
      clear hc
      cases hq : (x.name.toList == nm.toList) with
      | true =>
        rw [hq] at HC HSN
        have hany : bs.any (fun x => x.name.toList == nm.toList) = true := List.any_eq_true.2 ⟨x, HM.out, hq⟩
        obtain rfl : true = R := hany.symm.trans HR.out
        clear hq hany
        go_wp2_with (go_at_call 55; refine HC.out.mono ?_; rintro e w' ⟨rfl, hb⟩)
        go_ret
        exact ⟨⟨k, rfl, decide_eq_true (by omega)⟩, below_step HB.out hb⟩
      | false =>
        rw [hq] at HC HSN
        clear hq
        go_wp2_with (go_at_call 55; refine HC.out.mono ?_; rintro e w' ⟨rfl, hb⟩)
        go_roundw
        case rel => exact ⟨k + 1, by omega, by go_num, ⟨below_step HB.out hb⟩, HSN⟩
        case measure => simp [intOf]; omega
    · obtain rfl : k = bs.length := by omega
      have hany := HK.out
      rw [List.take_length] at hany
      obtain rfl : false = R := hany.symm.trans HR.out
      clear hany
      go_wp2
      go_ret
      exact ⟨⟨-1, rfl, rfl⟩, HB.out⟩
theorem has_same (nm : ByteArray) (bb : Nat) (bs : List ABk) (a : Option Addr) (cap : Nat) (w : World) (hlen : bs.length ≤ 100) (hA : AAt w a bs) (h : w.cell? ⟨bb, 0, none⟩ = some (.string nm)) :
    Calls Try.prog 6 #[.slice a bs.length cap, .func (.func 55) #[] #[.pointer (some ⟨bb, 0, none⟩)]] w fun e w' => e = .returned (.bool (bs.any fun x => x.name.toList == nm.toList)) ∧ Below w.heap.size w w' := by
  have HI := Aside0.mk (idx_same nm bb bs a cap w hlen hA h _ rfl)
  clear hA h
  generalize (bs.any fun x => x.name.toList == nm.toList) = b at *
  go_enter Try.func6, Try.ntmps6
  go_wp2_with (go_at_call 24; refine HI.out.mono ?_; rintro e w' ⟨⟨r, rfl, hr⟩, hb⟩)
  go_ret
  exact ⟨rfl, hb⟩
def lineR : List UInt8 → Nat → Bool → Option Bool
  | [], _, long => some long
  | c :: r, line, long => if c.toNat = 10 ∨ c.toNat = 12 then lineR r 0 long else if 32 ≤ c.toNat ∧ c.toNat ≤ 126 then lineR r (line + 1) (long || decide (200 < line + 1)) else none
def checkR (x : ABk) (bs : List ABk) : Nat :=
  if namedB x.name = false then 8 else if (bs.any fun y => y.name.toList == x.name.toList) = true then 5 else
  match lineR x.text.data.toList 0 false with
  | none => 2
  | some long => if long = true ∨ 1048576 < x.text.size then 3 else 0
theorem check_walk (x : ABk) (bs : List ABk) (a : Option Addr) (cap : Nat) (w : World) (hn : x.name.size ≤ 9223372036854775807) (ht : x.text.size ≤ 9223372036854775807) (hlen : bs.length ≤ 100) (hA : AAt w a bs) (R : Nat) (hR : checkR x bs = R) :
    Calls Try.prog 25 #[.agg #[.string x.name, .string x.text, .bool x.write], .slice a bs.length cap] w fun e w' => e = .returned (.int .i64 R) ∧ Below w.heap.size w w' := by
  have HX0 := Aside0.mk ((bxs_nil w).push x.cells 26)
  have HN := Aside0.mk (fun (w1 : World) => named_walk x.name w1 hn _ rfl)
  have HS := Aside0.mk (fun (w1 : World) (hA : AAt w1 a bs) (h : w1.cell? ⟨w.heap.size, 0, none⟩ = some (.string x.name)) => has_same x.name w.heap.size bs a cap w1 hlen hA h)
  have HA := Aside0.mk hA
  have HR := Aside0.mk hR
  have HNS := Aside0.mk hn
  clear hA hR hn
  unfold checkR at HR
  go_enter Try.func25, Try.ntmps25
  go_wp2_with fail
  refine (HN.out _).mono ?_
  rintro e w1 ⟨rfl, hb⟩
  have HX : Aside0 (Bxs w w1 [(w.heap.size, x.cells, 26)]) := ⟨by have := HX0.out.next (w2 := w1) (by simpa [ABk.cells] using hb); simpa [ABk.cells] using this⟩
  clear HX0 hb
  have HT := Aside0.mk ht
  clear ht
  cases hnm : namedB x.name with
  | false =>
    obtain rfl : 8 = R := by have := HR.out; rw [hnm] at this; simpa using this
    clear hnm
    go_wp2
    go_ret
    exact ⟨rfl, HX.out.b⟩
  | true =>
    rw [hnm] at HR
    clear hnm
    go_wp2_with fail
    refine (HS.out w1 (HA.out.below HX.out.b) ((blk_cell HX.out.get 0).trans rfl)).mono ?_
    rintro e w2 ⟨rfl, hb⟩
    have HX2 := Aside0.mk (HX.out.next hb)
    clear HX hb
    cases hany : bs.any fun y => y.name.toList == x.name.toList with
    | true =>
      obtain rfl : 5 = R := by have := HR.out; rw [hany] at this; simpa using this
      clear hany
      go_wp2
      go_ret
      exact ⟨rfl, HX2.out.b⟩
    | false =>
      have HR2 : Aside0 ((match lineR x.text.data.toList 0 false with | none => 2 | some long => if long = true ∨ 1048576 < x.text.size then 3 else 0) = R) := ⟨by have := HR.out; rw [hany] at this; simpa using this⟩
      clear HR hany
      have z1 : w2.cell? ⟨w.heap.size, 1, none⟩ = some (.string x.text) := (blk_cell HX2.out.get 1).trans rfl
      have hconv := Lib.run_convert_string_bytes (P := Try.prog) w2 9 60 5 x.text Try.underlying9 Try.underlying60 Try.underlying5
      have HC : Aside0 (∀ j, j < x.text.size → (Lib.bytesWorld w2 5 x.text).cell? ⟨w2.heap.size, j, none⟩ = some (.int .u8 (x.text.data.toList.getD j 0).toNat)) := ⟨fun j hj => Lib.bytesWorld_cell w2 5 x.text j hj⟩
      have HB : Aside0 (Below w2.heap.size w2 (Lib.bytesWorld w2 5 x.text)) := ⟨⟨rfl, rfl, rfl, by rw [Lib.bytesWorld_size]; omega, fun k hk => Lib.bytesWorld_at_old w2 5 x.text k hk⟩⟩
      have HL : Aside0 (x.text.data.toList.length = x.text.size) := ⟨by simp⟩
      generalize hW : Lib.bytesWorld w2 5 x.text = W at *
      have HW := Aside0.mk hW
      clear hW
      have HX3 := Aside0.mk (HX2.out.next HB.out)
      have zW : W.cell? ⟨w.heap.size, 1, none⟩ = some (.string x.text) := (blk_cell HX3.out.get 1).trans rfl
      have hsz := HT.out
      generalize hRR : lineR x.text.data.toList 0 false = RR at *
      have HRR := Aside0.mk hRR
      clear hRR
      go_wp2
      go_loop [5, 6, 20] (fun l g i => ∃ (k n : Nat) (b : Bool), k ≤ x.text.size ∧ i = .int .i64 k ∧ l = .int .i64 n ∧ g = .bool b ∧ n ≤ k ∧ Aside0 (lineR (x.text.data.toList.drop k) n b = RR)) (fun _ _ i => x.text.size - (intOf i).toNat)
      case atStart => exact ⟨0, 0, false, Nat.zero_le _, rfl, rfl, rfl, Nat.le_refl _, HRR⟩
      case round =>
        obtain ⟨k, n, b, hk, rfl, rfl, rfl, hnk, HK⟩ := hrel
        by_cases hlt : k < x.text.size
        · have hc := HC.out k hlt
          have hd : x.text.data.toList.drop k = x.text.data.toList.getD k 0 :: x.text.data.toList.drop (k + 1) := by
            rw [List.drop_eq_getElem_cons (by rw [HL.out]; exact hlt), List.getD_eq_getElem?_getD, List.getElem?_eq_getElem (by rw [HL.out]; exact hlt)]; rfl
          rw [hd] at HK
          clear hd
          generalize x.text.data.toList.getD k 0 = c at *
          have hc0 : c.toNat ≤ 255 := by have := c.toNat_lt; omega
          unfold lineR at HK
          generalize c.toNat = d at *
          have hn1 : n < 9223372036854775807 := by omega
          by_cases hend : d = 10 ∨ d = 12
          · rw [if_pos hend] at HK
            rcases hend with rfl | rfl
            · go_wp2
              go_round
              case rel => exact ⟨k + 1, 0, b, by omega, by go_num, rfl, rfl, by omega, HK⟩
              case measure => simp [intOf]; omega
            · go_wp2
              go_round
              case rel => exact ⟨k + 1, 0, b, by omega, by go_num, rfl, rfl, by omega, HK⟩
              case measure => simp [intOf]; omega
          · rw [if_neg hend] at HK
            have h10 : ¬ ((d : Int) = 10) := by omega
            have h12 : ¬ ((d : Int) = 12) := by omega
            have b10 : ((d : Int) == 10) = false := beq_eq_false_iff_ne.2 h10
            have b12 : ((d : Int) == 12) = false := beq_eq_false_iff_ne.2 h12
            clear hend h10 h12
            have HPL := Aside0.mk (plain_walk (d : Int) W)
            by_cases hp : 32 ≤ d ∧ d ≤ 126
            · rw [if_pos hp] at HK
              rw [decide_eq_true (show 32 ≤ (d : Int) ∧ (d : Int) ≤ 126 by omega)] at HPL
              cases b with
              | true =>
                go_wp2_with (go_at_call 43; refine HPL.out.mono ?_; rintro e w' ⟨rfl, rfl⟩)
                go_round
                case rel => exact ⟨k + 1, n + 1, true, by omega, by go_num, by go_num, rfl, by omega, HK⟩
                case measure => simp [intOf]; omega
              | false =>
                rw [Bool.false_or] at HK
                by_cases hlong : 200 < n + 1
                · rw [decide_eq_true hlong] at HK
                  have hl' : (200 : Int) < (n : Int) + 1 := by omega
                  go_wp2_with (go_at_call 43; refine HPL.out.mono ?_; rintro e w' ⟨rfl, rfl⟩)
                  go_round
                  case rel => exact ⟨k + 1, n + 1, true, by omega, by go_num, by go_num, by first | rfl | (simp; omega), by omega, HK⟩
                  case measure => simp [intOf]; omega
                · rw [decide_eq_false hlong] at HK
                  have hl' : ¬ (200 : Int) < (n : Int) + 1 := by omega
                  go_wp2_with (go_at_call 43; refine HPL.out.mono ?_; rintro e w' ⟨rfl, rfl⟩)
                  go_round
                  case rel => exact ⟨k + 1, n + 1, false, by omega, by go_num, by go_num, by first | rfl | (simp; omega), by omega, HK⟩
                  case measure => simp [intOf]; omega
            · rw [if_neg hp] at HK
              rw [decide_eq_false (show ¬ (32 ≤ (d : Int) ∧ (d : Int) ≤ 126) by omega)] at HPL
              obtain rfl : 2 = R := by have := HR2.out; rw [← HK.out] at this; exact this
              go_wp2_with (go_at_call 43; refine HPL.out.mono ?_; rintro e w' ⟨rfl, rfl⟩)
              go_ret
              exact ⟨rfl, HX3.out.b⟩
        · obtain rfl : k = x.text.size := by omega
          have hd : x.text.data.toList.drop x.text.size = [] := List.drop_eq_nil_of_le (by rw [HL.out]; exact Nat.le_refl _)
          rw [hd] at HK
          clear hd
          cases b with
          | true =>
            obtain rfl : 3 = R := by have := HR2.out; rw [← HK.out] at this; simpa [lineR] using this
            go_wp2
            go_ret
            exact ⟨rfl, HX3.out.b⟩
          | false =>
            by_cases hbig : 1048576 < x.text.size
            · obtain rfl : 3 = R := by have := HR2.out; rw [← HK.out] at this; simpa [lineR, hbig] using this
              go_wp2
              go_ret
              exact ⟨rfl, HX3.out.b⟩
            · obtain rfl : 0 = R := by have := HR2.out; rw [← HK.out] at this; simpa [lineR, hbig] using this
              go_wp2
              go_ret
              exact ⟨rfl, HX3.out.b⟩
end Go.Proofs.Ytonmdifmlpfcpaa.PB
