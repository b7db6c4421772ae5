import Derived.StillTailTactics
import Derived.ArgAppend
import Derived.Below
import Derived.BigQuiet
import Derived.Deep.AppendLies
import Derived.Deep.CutBlock
import Derived.Deep.DeepCutAuto
import Derived.Deep.Draws
import Derived.Deep.LoopGhost
import Derived.Deep.OwnRows
import Derived.Deep.QuietTactic
import Derived.Deep.RegionHeld3
import Derived.KernelRfl
import Derived.Laws.Bits64b
import Derived.Laws.BitsLemmas
import Derived.Laws.BytesArg
import Derived.Laws.Externs
import Derived.Laws.IdiomCopy
import Derived.Laws.MakeOwn
import Derived.Laws.MathBits
import Derived.Laws.OwnMore
import Derived.Laws.Rows
import Derived.Laws.Slices
import Derived.Lib.AppendStr
import Derived.Lib.ConvBytes
import Derived.Maps.AppendAt
import Derived.OrdersHeld
import Derived.OwnWalk
import Derived.RowKit
import Derived.RowKit3
import Derived.Tactics
import Derived.Test.YtonmdifmlpfcpaaDoorProg
import Derived.WalkKit
import Derived.WideLaws
import Derived.Test.YtonmdifmlpfcpaaDoorWWords
import Derived.Test.YtonmdifmlpfcpaaDoorWLast
import Derived.Test.YtonmdifmlpfcpaaDoorWTab
import Derived.Test.YtonmdifmlpfcpaaDoorWFour
import Derived.Test.YtonmdifmlpfcpaaDoorWQPut
import Derived.Test.YtonmdifmlpfcpaaDoorWApart
import Derived.Test.YtonmdifmlpfcpaaDoorWArr
import Derived.Test.YtonmdifmlpfcpaaDoorWZeros
import Derived.Test.YtonmdifmlpfcpaaDoorWFoot
import Derived.Test.YtonmdifmlpfcpaaDoorWKept
import Derived.Test.YtonmdifmlpfcpaaDoorWShare
import Derived.Test.YtonmdifmlpfcpaaDoorWN
import Derived.Test.YtonmdifmlpfcpaaDoorWFootNe
import Derived.Test.YtonmdifmlpfcpaaDoorWAt
import Derived.Test.YtonmdifmlpfcpaaDoorWEqStruct
import Derived.Test.YtonmdifmlpfcpaaDoorWRepsOne
import Derived.Test.YtonmdifmlpfcpaaDoorWInv
import Derived.Test.YtonmdifmlpfcpaaDoorWInvWords
import Derived.Test.YtonmdifmlpfcpaaDoorWGuard
import Derived.Test.YtonmdifmlpfcpaaDoorWNEv
import Derived.Test.YtonmdifmlpfcpaaDoorWMore
namespace Go.Proofs.YtonmdifmlpfcpaaDoor.PB
open Go.RowKit Go.Proofs.YtonmdifmlpfcpaaDoorW.PrintWords Go.Proofs.YtonmdifmlpfcpaaDoorW.PrintLast Go.Proofs.YtonmdifmlpfcpaaDoorW.PrintMore
set_option linter.unusedVariables false
set_option linter.unusedSimpArgs false
set_option maxRecDepth 100000
set_option maxHeartbeats 1000000
/-! boxes that a law's walk carries along -/
structure Bxs (w wx : World) (bs : List (Nat × Array Value × TypeId)) : Prop where
  h : ∀ p ∈ bs, wx.heap[p.1]? = some (.cells p.2.1 p.2.2 (0, 0))
  b : Below w.heap.size w wx
theorem Bxs.next {w wx w2 : World} {bs : List (Nat × Array Value × TypeId)} (h : Bxs w wx bs) (hb : Below wx.heap.size wx w2) : Bxs w w2 bs := ⟨fun p hp => blk_below (h.h p hp) hb, below_step h.b hb⟩
theorem Bxs.drew {w wx : World} {bs : List (Nat × Array Value × TypeId)} (h : Bxs w wx bs) : Bxs w wx.drew bs := ⟨fun p hp => blk_drew (h.h p hp), below_drew1 h.b⟩
theorem Bxs.drewN {w wx : World} {bs : List (Nat × Array Value × TypeId)} (h : Bxs w wx bs) (n : Nat) : Bxs w (wx.drewN n) bs := ⟨fun p hp => blk_drewN (h.h p hp) n, pw_below_drewN h.b n⟩
theorem Bxs.alloc {w wx : World} {bs : List (Nat × Array Value × TypeId)} (h : Bxs w wx bs) (o : Obj) : Bxs w (wx.alloc o) bs := ⟨fun p hp => blk_alloc (h.h p hp) _, below_alloc h.b _⟩
theorem Bxs.push {w wx : World} {bs : List (Nat × Array Value × TypeId)} (h : Bxs w wx bs) (cs : Array Value) (t : TypeId) : Bxs w (wx.alloc (.cells cs t)) ((wx.heap.size, cs, t) :: bs) := by
  refine ⟨fun p hp => ?_, below_alloc h.b _⟩
  rcases List.mem_cons.1 hp with rfl | hp
  · exact blk_new _ _
  · exact blk_alloc (h.h p hp) _
theorem Bxs.get {w wx : World} {g : Nat} {cs : Array Value} {t : TypeId} {bs : List (Nat × Array Value × TypeId)} (h : Bxs w wx ((g, cs, t) :: bs)) : wx.heap[g]? = some (.cells cs t (0, 0)) := h.h _ (List.mem_cons_self ..)
theorem Bxs.tail {w wx : World} {p : Nat × Array Value × TypeId} {bs : List (Nat × Array Value × TypeId)} (h : Bxs w wx (p :: bs)) : Bxs w wx bs := ⟨fun q hq => h.h q (List.mem_cons_of_mem _ hq), h.b⟩
theorem bxs_nil (w : World) : Bxs w w [] := ⟨fun _ h => (List.not_mem_nil h).elim, Below.refl _ _⟩
theorem c2 {w : World} {g : Nat} {a b : Value} {t : TypeId} (h : w.heap[g]? = some (.cells #[a, b] t (0, 0))) : w.cell? ⟨g, 0, none⟩ = some a ∧ w.cell? ⟨g, 1, none⟩ = some b := ⟨(blk_cell h 0).trans rfl, (blk_cell h 1).trans rfl⟩
theorem Bxs.perm {w wx : World} {l l' : List (Nat × Array Value × TypeId)} (h : Bxs w wx l) (hs : ∀ p ∈ l', p ∈ l) : Bxs w wx l' := ⟨fun p hp => h.h p (hs p hp), h.b⟩
theorem Bxs.swap {w wx : World} {p q : Nat × Array Value × TypeId} {l : List (Nat × Array Value × TypeId)} (h : Bxs w wx (p :: q :: l)) : Bxs w wx (q :: p :: l) := by
  refine ⟨fun r hr => h.h r ?_, h.b⟩
  rcases List.mem_cons.1 hr with rfl | hr
  · exact List.mem_cons_of_mem _ (List.mem_cons_self ..)
  · rcases List.mem_cons.1 hr with rfl | hr
    · exact List.mem_cons_self ..
    · exact List.mem_cons_of_mem _ (List.mem_cons_of_mem _ hr)
theorem Bxs.put2 {w wx : World} {g : Nat} {a b a' b' : Value} {t : TypeId} {l : List (Nat × Array Value × TypeId)} (h : Bxs w wx ((g, #[a, b], t) :: l)) (hl : ∀ p ∈ l, p.1 ≠ g) (hg : w.heap.size ≤ g) : Bxs w ((wx.setCell ⟨g, 0, none⟩ a').setCell ⟨g, 1, none⟩ b') ((g, #[a', b'], t) :: l) := by
  refine ⟨fun p hp => ?_, below_set (below_set h.b hg) hg⟩
  rcases List.mem_cons.1 hp with rfl | hp
  · exact blk_put (blk_put h.get 0 _ rfl) 1 _ rfl
  · exact blk_far (blk_far (h.tail.h p hp) (hl p hp) _) (hl p hp) _
theorem f2 {w : World} {g : Nat} {a b : Value} {t : TypeId} (h : w.heap[g]? = some (.cells #[a, b] t (0, 0))) : w.frozen? ⟨g, 0, none⟩ = false ∧ w.frozen? ⟨g, 1, none⟩ = false := ⟨blk_frozen h 0, blk_frozen h 1⟩
theorem c6 {w : World} {g : Nat} {a b c d e f : Value} {t : TypeId} (h : w.heap[g]? = some (.cells #[a, b, c, d, e, f] t (0, 0))) : w.cell? ⟨g, 0, none⟩ = some a ∧ w.cell? ⟨g, 1, none⟩ = some b ∧ w.cell? ⟨g, 2, none⟩ = some c ∧ w.cell? ⟨g, 3, none⟩ = some d ∧ w.cell? ⟨g, 4, none⟩ = some e ∧ w.cell? ⟨g, 5, none⟩ = some f :=
  ⟨(blk_cell h 0).trans rfl, (blk_cell h 1).trans rfl, (blk_cell h 2).trans rfl, (blk_cell h 3).trans rfl, (blk_cell h 4).trans rfl, (blk_cell h 5).trans rfl⟩
/-! ### worlds of books as plain data -/
structure MBk where
  id : Nat
  name : ByteArray
  text : List UInt8
  write : Bool
structure MFl where
  num : Nat
  bk : Nat
  pos : Nat
  mood : Nat
  fl : Nat → Bool
structure MW where
  next : Nat
  books : List MBk
  files : List MFl
/-- what holds of every world that the program makes -/
structure MW.ok (m : MW) : Prop where
  bs : m.books.length ≤ 67
  fs : m.files.length ≤ 20
  ids : (m.books.map MBk.id).Nodup
  lt : ∀ b ∈ m.books, b.id < m.next
  tx : ∀ b ∈ m.books, b.text.length ≤ 1048576
  nums : (m.files.map MFl.num).Pairwise (· < ·)
  pos : ∀ f ∈ m.files, 1 ≤ f.num ∧ f.pos ≤ 1048576
  has : ∀ f ∈ m.files, ∃ b ∈ m.books, b.id = f.bk
/-- what a block of the heap is to a world -/
inductive Tag
  | no | wd | rb | rf | bk (i : Nat) | tx (i : Nat) | fl (n : Nat) | dead
structure Lay where
  p : Nat
  vb : Value
  vf : Value
  bk : Nat → Nat
  tv : Nat → Value
  fl : Nat → Nat
def pt (b : Nat) : Value := .pointer (some ⟨b, 0, none⟩)
def Lay.fcells (L : Lay) (f : MFl) : Array Value := #[.int .i64 f.num, pt (L.bk f.bk), .int .i64 f.pos, .int .i64 f.mood, .bool (f.fl 0), .bool (f.fl 1), .bool (f.fl 2), .bool (f.fl 3), .bool (f.fl 4), .bool (f.fl 5)]
def Lay.bcells (L : Lay) (b : MBk) : Array Value := #[.string b.name, L.tv b.id, .bool b.write]
def u8s (l : List UInt8) : List Value := l.map fun c => .int .u8 c.toNat
/-- a slice of bytes -/
def TxAt (κ : Nat → Tag) (t : Tag) (w : World) (v : Value) (l : List UInt8) : Prop :=
  (v = .slice none 0 0 ∧ l = []) ∨ (∃ a, v = .slice (some a) 0 0 ∧ l = []) ∨ ∃ g cap cur lo hi, v = .slice (some ⟨g, 0, none⟩) l.length cap ∧ κ g = t ∧ w.heap[g]? = some (.cells cur 5 (lo, hi)) ∧ l.length ≤ cap ∧ cap ≤ cur.size ∧ cap ≤ maxLen ∧ (∀ j, j < cap → ¬ (lo ≤ j ∧ j < hi)) ∧ cur.toList.take l.length = u8s l
structure WAt (κ : Nat → Tag) (L : Lay) (w : World) (m : MW) : Prop where
  ok : m.ok
  tp : κ L.p = .wd
  hp : w.heap[L.p]? = some (.cells #[L.vb, L.vf] 67 (0, 0))
  rb : w.ownsRow 0 69 1 L.vb m.books.length (m.books.map fun b => pt (L.bk b.id))
  tb : ∀ g, L.vb.ownBlock = some g → κ g = .rb
  rf : w.ownsRow 0 74 1 L.vf m.files.length (m.files.map fun f => pt (L.fl f.num))
  tf : ∀ g, L.vf.ownBlock = some g → κ g = .rf
  kb : ∀ b ∈ m.books, κ (L.bk b.id) = .bk b.id
  hb : ∀ b ∈ m.books, w.heap[L.bk b.id]? = some (.cells (L.bcells b) 72 (0, 0))
  tx : ∀ b ∈ m.books, TxAt κ (.tx b.id) w (L.tv b.id) b.text
  kf : ∀ f ∈ m.files, κ (L.fl f.num) = .fl f.num
  hf : ∀ f ∈ m.files, w.heap[L.fl f.num]? = some (.cells (L.fcells f) 77 (0, 0))
  top : ∀ k, w.heap.size ≤ k → κ k = .no
structure Nx (κ : Nat → Tag) (w : World) (κ' : Nat → Tag) (w' : World) : Prop where
  os : w'.os = w.os
  tape : w'.tape = w.tape
  output : w'.output = w.output
  size : w.heap.size ≤ w'.heap.size
  block : ∀ k, k < w.heap.size → κ k = .no → w'.heap[k]? = w.heap[k]?
  tag : ∀ k, k < w.heap.size → (κ' k = .no ↔ κ k = .no)
theorem Nx.refl (κ : Nat → Tag) (w : World) : Nx κ w κ w := ⟨rfl, rfl, rfl, Nat.le_refl _, fun _ _ _ => rfl, fun _ _ => Iff.rfl⟩
theorem Nx.trans {κ κ1 κ2 : Nat → Tag} {w w1 w2 : World} (h : Nx κ w κ1 w1) (k : Nx κ1 w1 κ2 w2) : Nx κ w κ2 w2 :=
  ⟨k.os.trans h.os, k.tape.trans h.tape, k.output.trans h.output, Nat.le_trans h.size k.size,
    fun i hi hn => (k.block i (Nat.lt_of_lt_of_le hi h.size) ((h.tag i hi).2 hn)).trans (h.block i hi hn),
    fun i hi => (k.tag i (Nat.lt_of_lt_of_le hi h.size)).trans (h.tag i hi)⟩
theorem Below.nx {w w' : World} (κ : Nat → Tag) (h : Below w.heap.size w w') : Nx κ w κ w' :=
  ⟨h.os, h.tape, h.output, h.size, fun k hk _ => h.block k hk, fun _ _ => Iff.rfl⟩
theorem ownsRow_of_block {w w' : World} {base : Nat} {e : TypeId} {size : Nat} {v : Value} {n : Nat} {xs : List Value} (h : w.ownsRow base e size v n xs) (hb : ∀ g, v.ownBlock = some g → w'.heap[g]? = w.heap[g]?) : w'.ownsRow base e size v n xs := by
  refine ⟨h.1, ?_⟩
  rcases h.2 with h | ⟨g, cap, cur, rfl, hg, hc, r⟩
  · exact .inl h
  · exact .inr ⟨g, cap, cur, rfl, hg, (hb g rfl).trans hc, r⟩
theorem TxAt.of_block {κ κ' : Nat → Tag} {t : Tag} {w w' : World} {v : Value} {l : List UInt8} (h : TxAt κ t w v l) (hk : ∀ g, κ g = t → κ' g = t) (hb : ∀ g, κ g = t → w'.heap[g]? = w.heap[g]?) : TxAt κ' t w' v l := by
  rcases h with h | h | ⟨g, cap, cur, lo, hi, hv, ht, hc, r⟩
  · exact .inl h
  · exact .inr (.inl h)
  · exact .inr (.inr ⟨g, cap, cur, lo, hi, hv, hk g ht, (hb g ht).trans hc, r⟩)
theorem WAt.keep {κ κ' : Nat → Tag} {L : Lay} {w w' : World} {m : MW} (h : WAt κ L w m) (hk : ∀ k, κ k ≠ .no → κ' k = κ k) (hb : ∀ k, κ k ≠ .no → w'.heap[k]? = w.heap[k]?) (ht : ∀ k, w'.heap.size ≤ k → κ' k = .no) : WAt κ' L w' m where
  ok := h.ok
  tp := (hk _ (by rw [h.tp]; exact Tag.noConfusion)).trans h.tp
  hp := (hb _ (by rw [h.tp]; exact Tag.noConfusion)).trans h.hp
  rb := ownsRow_of_block h.rb fun g hg => hb g (by rw [h.tb g hg]; exact Tag.noConfusion)
  tb := fun g hg => (hk g (by rw [h.tb g hg]; exact Tag.noConfusion)).trans (h.tb g hg)
  rf := ownsRow_of_block h.rf fun g hg => hb g (by rw [h.tf g hg]; exact Tag.noConfusion)
  tf := fun g hg => (hk g (by rw [h.tf g hg]; exact Tag.noConfusion)).trans (h.tf g hg)
  kb := fun b hm => (hk _ (by rw [h.kb b hm]; exact Tag.noConfusion)).trans (h.kb b hm)
  hb := fun b hm => (hb _ (by rw [h.kb b hm]; exact Tag.noConfusion)).trans (h.hb b hm)
  tx := fun b hm => (h.tx b hm).of_block (fun g hg => (hk g (by rw [hg]; exact Tag.noConfusion)).trans hg) (fun g hg => hb g (by rw [hg]; exact Tag.noConfusion))
  kf := fun f hm => (hk _ (by rw [h.kf f hm]; exact Tag.noConfusion)).trans (h.kf f hm)
  hf := fun f hm => (hb _ (by rw [h.kf f hm]; exact Tag.noConfusion)).trans (h.hf f hm)
  top := ht
theorem WAt.lt {κ : Nat → Tag} {L : Lay} {w : World} {m : MW} (h : WAt κ L w m) {k : Nat} (hk : κ k ≠ .no) : k < w.heap.size := by
  rcases Nat.lt_or_ge k w.heap.size with h1 | h1
  · exact h1
  · exact absurd (h.top k h1) hk
theorem WAt.below {κ : Nat → Tag} {L : Lay} {w w' : World} {m : MW} (h : WAt κ L w m) (hb : Below w.heap.size w w') : WAt κ L w' m :=
  h.keep (fun _ _ => rfl) (fun k hk => hb.block k (h.lt hk)) (fun k hk => h.top k (Nat.le_trans hb.size hk))
/-- another world beside it -/
theorem WAt.beside {κ κ1 κ2 : Nat → Tag} {L : Lay} {w w' : World} {m : MW} (h : WAt κ L w m) (hn : Nx κ1 w κ2 w') (hd : ∀ k, κ k = .no ∨ κ1 k = .no) : WAt κ L w' m :=
  h.keep (fun _ _ => rfl) (fun k hk => hn.block k (h.lt hk) ((hd k).resolve_left hk)) (fun k hk => h.top k (Nat.le_trans hn.size hk))
/-- the state that a walk over a world carries -/
def St (κ0 : Nat → Tag) (w0 : World) (κ : Nat → Tag) (L : Lay) (w : World) (m : MW) : Prop := WAt κ L w m ∧ Nx κ0 w0 κ w
theorem St.below {κ0 κ : Nat → Tag} {L : Lay} {w0 w w' : World} {m : MW} (h : St κ0 w0 κ L w m) (hb : Below w.heap.size w w') : St κ0 w0 κ L w' m := ⟨h.1.below hb, h.2.trans (Below.nx κ hb)⟩
theorem St.then {κ0 κ κ' : Nat → Tag} {L L' : Lay} {w0 w w' : World} {m m' : MW} (h : St κ0 w0 κ L w m) (hn : St κ w κ' L' w' m') : St κ0 w0 κ' L' w' m' := ⟨hn.1, h.2.trans hn.2⟩
theorem WAt.st {κ : Nat → Tag} {L : Lay} {w : World} {m : MW} (h : WAt κ L w m) : St κ w κ L w m := ⟨h, Nx.refl _ _⟩
theorem inj_of_nodup_map {α β : Type} {f : α → β} : ∀ {l : List α}, (l.map f).Nodup → ∀ {a b : α}, a ∈ l → b ∈ l → f a = f b → a = b
  | [], _, _, _, ha, _, _ => absurd ha List.not_mem_nil
  | x :: r, h, a, b, ha, hb, e => by
    rw [List.map_cons, List.nodup_cons] at h
    rcases List.mem_cons.1 ha with h1 | h1
    · rcases List.mem_cons.1 hb with h2 | h2
      · rw [h1, h2]
      · exact absurd (by rw [← h1, e]; exact List.mem_map_of_mem h2) h.1
    · rcases List.mem_cons.1 hb with h2 | h2
      · exact absurd (by rw [← h2, ← e]; exact List.mem_map_of_mem h1) h.1
      · exact inj_of_nodup_map h.2 h1 h2 e
def MW.setF (m : MW) (f' : MFl) : MW := { m with files := m.files.map fun g => if g.num = f'.num then f' else g }
theorem MW.ok.num_inj {m : MW} (h : m.ok) {f g : MFl} (hf : f ∈ m.files) (hg : g ∈ m.files) (e : f.num = g.num) : f = g := by
  have hn : (m.files.map MFl.num).Nodup := h.nums.imp (fun hab => Nat.ne_of_lt hab)
  exact inj_of_nodup_map hn hf hg e
theorem MW.ok.id_inj {m : MW} (h : m.ok) {a b : MBk} (ha : a ∈ m.books) (hb : b ∈ m.books) (e : a.id = b.id) : a = b := inj_of_nodup_map h.ids ha hb e
theorem setF_nums (m : MW) (f' : MFl) : (m.setF f').files.map MFl.num = m.files.map MFl.num := by
  simp only [MW.setF, List.map_map]
  refine List.map_congr_left fun g _ => ?_
  show (if g.num = f'.num then f' else g).num = g.num
  split <;> simp_all
theorem mem_setF {m : MW} {f' g : MFl} (h : g ∈ (m.setF f').files) : g = f' ∨ g ∈ m.files ∧ g.num ≠ f'.num := by
  obtain ⟨x, hx, rfl⟩ := List.mem_map.1 h
  by_cases e : x.num = f'.num
  · exact .inl (if_pos e)
  · rw [if_neg e]
    exact .inr ⟨hx, e⟩
theorem setF_mem {m : MW} {f f' : MFl} (hf : f ∈ m.files) (hn : f'.num = f.num) : f' ∈ (m.setF f').files :=
  List.mem_map.2 ⟨f, hf, if_pos hn.symm⟩
theorem MW.ok.setF {m : MW} (h : m.ok) {f f' : MFl} (hf : f ∈ m.files) (hn : f'.num = f.num) (hb : f'.bk = f.bk) (hp : f'.pos ≤ 1048576) : (m.setF f').ok where
  bs := h.bs
  fs := by show (m.files.map _).length ≤ 20; rw [List.length_map]; exact h.fs
  ids := h.ids
  lt := h.lt
  tx := h.tx
  nums := by rw [setF_nums]; exact h.nums
  pos := fun g hg => by
    rcases mem_setF hg with rfl | ⟨hg, _⟩
    · exact ⟨by rw [hn]; exact (h.pos f hf).1, hp⟩
    · exact h.pos g hg
  has := fun g hg => by
    rcases mem_setF hg with rfl | ⟨hg, _⟩
    · rw [hb]; exact h.has f hf
    · exact h.has g hg
theorem tne {κ : Nat → Tag} {a b : Nat} {s t : Tag} (ha : κ a = s) (hb : κ b = t) (h : s ≠ t) : a ≠ b := fun e => h (by rw [← ha, ← hb, e])
/-- a file's cells are written -/
theorem WAt.setF {κ : Nat → Tag} {L : Lay} {w w' : World} {m : MW} (h : WAt κ L w m) {f f' : MFl} (hf : f ∈ m.files) (hn : f'.num = f.num) (hb : f'.bk = f.bk) (hp : f'.pos ≤ 1048576)
    (hc : w'.heap[L.fl f.num]? = some (.cells (L.fcells f') 77 (0, 0))) (ho : ∀ k, k ≠ L.fl f.num → w'.heap[k]? = w.heap[k]?) (hs : w'.heap.size = w.heap.size) : WAt κ L w' (m.setF f') where
  ok := h.ok.setF hf hn hb hp
  tp := h.tp
  hp := (ho _ (tne h.tp (h.kf f hf) Tag.noConfusion)).trans h.hp
  rb := ownsRow_of_block h.rb fun g hg => ho _ (tne (h.tb g hg) (h.kf f hf) Tag.noConfusion)
  tb := h.tb
  rf := by
    have e1 : (m.setF f').files.length = m.files.length := by show (m.files.map _).length = _; rw [List.length_map]
    have e2 : ((m.setF f').files.map fun f => pt (L.fl f.num)) = m.files.map fun f => pt (L.fl f.num) := by
      have := congrArg (List.map fun n => pt (L.fl n)) (setF_nums m f')
      simpa only [List.map_map, Function.comp_def] using this
    rw [e1, e2]
    exact ownsRow_of_block h.rf fun g hg => ho _ (tne (h.tf g hg) (h.kf f hf) Tag.noConfusion)
  tf := h.tf
  kb := h.kb
  hb := fun b hm => (ho _ (tne (h.kb b hm) (h.kf f hf) Tag.noConfusion)).trans (h.hb b hm)
  tx := fun b hm => (h.tx b hm).of_block (fun _ hg => hg) (fun g hg => ho _ (tne hg (h.kf f hf) Tag.noConfusion))
  kf := fun g hg => by
    rcases mem_setF hg with rfl | ⟨hg, _⟩
    · rw [hn]; exact h.kf f hf
    · exact h.kf g hg
  hf := fun g hg => by
    rcases mem_setF hg with rfl | ⟨hg, hne⟩
    · rw [hn]; exact hc
    · refine (ho _ (tne (h.kf g hg) (h.kf f hf) fun e => hne ?_)).trans (h.hf g hg)
      rw [hn]; injection e
  top := fun k hk => h.top k (by rw [← hs]; exact hk)
theorem Nx.set {κ : Nat → Tag} {w w' : World} {g : Nat} (hg : κ g ≠ .no) (h1 : w'.os = w.os) (h2 : w'.tape = w.tape) (h3 : w'.output = w.output) (ho : ∀ k, k ≠ g → w'.heap[k]? = w.heap[k]?) (hs : w'.heap.size = w.heap.size) : Nx κ w κ w' :=
  ⟨h1, h2, h3, by rw [hs]; exact Nat.le_refl _, fun k _ hk => ho k fun e => hg (by rw [← e]; exact hk), fun _ _ => Iff.rfl⟩
end Go.Proofs.YtonmdifmlpfcpaaDoor.PB
