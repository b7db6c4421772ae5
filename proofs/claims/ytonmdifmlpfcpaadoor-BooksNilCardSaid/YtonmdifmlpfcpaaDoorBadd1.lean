import Derived.StillTailTactics
import Derived.ArgAppend
import Derived.Below
import Derived.BigQuiet
import Derived.Deep.AppendLies
import Derived.Deep.CutBlock
import Derived.Deep.DeepCutAuto
import Derived.Deep.Draws
import Derived.Deep.LoopGhost
import Derived.Deep.OwnRows
import Derived.Deep.QuietTactic
import Derived.Deep.RegionHeld3
import Derived.KernelRfl
import Derived.Laws.Bits64b
import Derived.Laws.BitsLemmas
import Derived.Laws.BytesArg
import Derived.Laws.Externs
import Derived.Laws.IdiomCopy
import Derived.Laws.MakeOwn
import Derived.Laws.MathBits
import Derived.Laws.OwnMore
import Derived.Laws.Rows
import Derived.Laws.Slices
import Derived.Lib.AppendStr
import Derived.Lib.ConvBytes
import Derived.Maps.AppendAt
import Derived.OrdersHeld
import Derived.OwnWalk
import Derived.RowKit
import Derived.RowKit3
import Derived.Tactics
import Derived.Test.YtonmdifmlpfcpaaDoorProg
import Derived.WalkKit
import Derived.WideLaws
import Derived.Lib.Walk
import Derived.Lib.SliceRun
import Derived.Lib.JoinLaws
import Derived.Lib.AppendZeros
import Derived.Lib.Overlaps
import Derived.Lib.AppendZerosOnto
import Derived.Shelf.RegionOpenPlain
import Derived.Test.YtonmdifmlpfcpaaDoorWWords
import Derived.Test.YtonmdifmlpfcpaaDoorWLast
import Derived.Test.YtonmdifmlpfcpaaDoorWTab
import Derived.Test.YtonmdifmlpfcpaaDoorWFour
import Derived.Test.YtonmdifmlpfcpaaDoorWQPut
import Derived.Test.YtonmdifmlpfcpaaDoorWApart
import Derived.Test.YtonmdifmlpfcpaaDoorWArr
import Derived.Test.YtonmdifmlpfcpaaDoorWZeros
import Derived.Test.YtonmdifmlpfcpaaDoorWFoot
import Derived.Test.YtonmdifmlpfcpaaDoorWKept
import Derived.Test.YtonmdifmlpfcpaaDoorWShare
import Derived.Test.YtonmdifmlpfcpaaDoorWN
import Derived.Test.YtonmdifmlpfcpaaDoorWFootNe
import Derived.Test.YtonmdifmlpfcpaaDoorWAt
import Derived.Test.YtonmdifmlpfcpaaDoorWEqStruct
import Derived.Test.YtonmdifmlpfcpaaDoorWRepsOne
import Derived.Test.YtonmdifmlpfcpaaDoorWInv
import Derived.Test.YtonmdifmlpfcpaaDoorWInvWords
import Derived.Test.YtonmdifmlpfcpaaDoorWGuard
import Derived.Test.YtonmdifmlpfcpaaDoorWNEv
import Derived.Test.YtonmdifmlpfcpaaDoorWMore
import Derived.Test.YtonmdifmlpfcpaaDoorBapp
namespace Go.Proofs.YtonmdifmlpfcpaaDoor.PB
open Go.RowKit Go.Proofs.YtonmdifmlpfcpaaDoorW.PrintWords Go.Proofs.YtonmdifmlpfcpaaDoorW.PrintLast Go.Proofs.YtonmdifmlpfcpaaDoorW.PrintMore
set_option linter.unusedVariables false
set_option linter.unusedSimpArgs false
set_option maxRecDepth 100000
set_option maxHeartbeats 1000000
def leastN : List MFl → Nat → Nat
  | [], n => n
  | f :: r, n => leastN r (if f.num = n then n + 1 else n)
def freshF (n id : Nat) : MFl := { num := n, bk := id, pos := 0, mood := 0, fl := fun e => decide (e = 1 ∨ e = 2 ∨ e = 5) }
theorem leastN_le : ∀ (l : List MFl) (n : Nat), n ≤ leastN l n ∧ leastN l n ≤ n + l.length
  | [], n => ⟨Nat.le_refl _, Nat.le_refl _⟩
  | f :: r, n => by
    unfold leastN
    have := leastN_le r (if f.num = n then n + 1 else n)
    rw [List.length_cons]
    split at this <;> rename_i h
    · rw [if_pos h]; omega
    · rw [if_neg h]; omega
theorem leastN_gt : ∀ (l : List MFl) (n : Nat), (∀ f ∈ l, n < f.num) → leastN l n = n
  | [], n, _ => rfl
  | f :: r, n, h => by
    unfold leastN
    have h1 := h f (List.mem_cons_self ..)
    rw [if_neg (by omega)]
    exact leastN_gt r n fun g hg => h g (List.mem_cons_of_mem _ hg)
theorem leastN_split : ∀ (l : List MFl) (k : Nat), (l.map MFl.num).Pairwise (· < ·) → (∀ f ∈ l, k ≤ f.num) → ∃ l1 l2, l = l1 ++ l2 ∧ l1.length + k = leastN l k ∧ (∀ f ∈ l1, f.num < leastN l k) ∧ ∀ f ∈ l2, leastN l k < f.num
  | [], k, _, _ => ⟨[], [], rfl, by simp [leastN], fun _ h => absurd h List.not_mem_nil, fun _ h => absurd h List.not_mem_nil⟩
  | f :: r, k, hp, hk => by
    rw [List.map_cons, List.pairwise_cons] at hp
    have hr : ∀ g ∈ r, f.num < g.num := fun g hg => hp.1 _ (List.mem_map_of_mem hg)
    have h0 := hk f (List.mem_cons_self ..)
    unfold leastN
    by_cases e : f.num = k
    · rw [if_pos e]
      obtain ⟨l1, l2, h1, h2, h3, h4⟩ := leastN_split r (k + 1) hp.2 fun g hg => by have := hr g hg; omega
      refine ⟨f :: l1, l2, by rw [h1]; rfl, by rw [List.length_cons]; omega, fun g hg => ?_, h4⟩
      rcases List.mem_cons.1 hg with rfl | hg
      · have := (leastN_le r (k + 1)).1; omega
      · exact h3 g hg
    · rw [if_neg e, leastN_gt r k fun g hg => by have := hr g hg; omega]
      refine ⟨[], f :: r, rfl, by simp, fun _ h => absurd h List.not_mem_nil, fun g hg => ?_⟩
      rcases List.mem_cons.1 hg with rfl | hg
      · omega
      · have := hr g hg; omega
def MW.addN (m : MW) : Nat := leastN m.files 1
def MW.addF (m : MW) (id : Nat) : MW := { m with files := m.files.take (m.addN - 1) ++ freshF m.addN id :: m.files.drop (m.addN - 1) }
theorem add_split {m : MW} (h : m.ok) (id : Nat) : ∃ l1 l2, m.files = l1 ++ l2 ∧ (m.addF id).files = l1 ++ freshF m.addN id :: l2 ∧ l1.length + 1 = m.addN ∧ (∀ f ∈ l1, f.num < m.addN) ∧ ∀ f ∈ l2, m.addN < f.num := by
  obtain ⟨l1, l2, h1, h2, h3, h4⟩ := leastN_split m.files 1 h.nums fun f hf => (h.pos f hf).1
  refine ⟨l1, l2, h1, ?_, h2, h3, h4⟩
  have e : m.addN - 1 = l1.length := by unfold MW.addN; omega
  unfold MW.addF
  show m.files.take (m.addN - 1) ++ _ :: m.files.drop (m.addN - 1) = _
  rw [e, h1, List.take_left, List.drop_left]
theorem MW.ok.addF {m : MW} (h : m.ok) {b : MBk} (hb : b ∈ m.books) (hl : m.files.length < 20) : (m.addF b.id).ok := by
  obtain ⟨l1, l2, h1, h2, h3, h4, h5⟩ := add_split h b.id
  have hm : ∀ f, f ∈ (m.addF b.id).files → f ∈ m.files ∨ f = freshF m.addN b.id := fun f hf => by
    rw [h2] at hf
    rw [h1]
    rcases List.mem_append.1 hf with hf | hf
    · exact .inl (List.mem_append_left _ hf)
    · rcases List.mem_cons.1 hf with rfl | hf
      · exact .inr rfl
      · exact .inl (List.mem_append_right _ hf)
  refine ⟨h.bs, ?_, h.ids, h.lt, h.tx, ?_, fun f hf => ?_, fun f hf => ?_⟩
  · rw [h2, List.length_append, List.length_cons]
    have := congrArg List.length h1
    rw [List.length_append] at this
    omega
  · have hp := h.nums
    rw [h1, List.map_append, List.pairwise_append] at hp
    rw [h2, List.map_append, List.map_cons, List.pairwise_append]
    refine ⟨hp.1, List.pairwise_cons.2 ⟨fun n hn => ?_, hp.2.1⟩, fun a ha c hc => ?_⟩
    · obtain ⟨f, hf, rfl⟩ := List.mem_map.1 hn
      exact h5 f hf
    · rcases List.mem_cons.1 hc with rfl | hc
      · obtain ⟨f, hf, rfl⟩ := List.mem_map.1 ha
        exact h4 f hf
      · exact hp.2.2 a ha c hc
  · rcases hm f hf with hf | rfl
    · exact h.pos f hf
    · exact ⟨by show 1 ≤ m.addN; omega, Nat.zero_le _⟩
  · rcases hm f hf with hf | rfl
    · exact h.has f hf
    · exact ⟨b, hb, rfl⟩
def κF (κ : Nat → Tag) (fb n : Nat) (v : Value) : Nat → Tag := fun k => if k = fb then .fl n else if v.ownBlock = some k then .rf else κ k
def Lay.addF (L : Lay) (fb n : Nat) (v : Value) : Lay := { L with vf := v, fl := fun k => if k = n then fb else L.fl k }
theorem WAt.addF {κ : Nat → Tag} {L : Lay} {w w' : World} {m : MW} (h : WAt κ L w m) {b : MBk} (hb : b ∈ m.books) (hl : m.files.length < 20) (fb : Nat) (v : Value)
    (hfb : w.heap.size ≤ fb) (hv : v.ownBlock = L.vf.ownBlock ∨ ∃ g, v.ownBlock = some g ∧ w.heap.size ≤ g ∧ g ≠ fb) (h1 : w'.os = w.os) (h2 : w'.tape = w.tape) (h3 : w'.output = w.output) (hsz : w.heap.size ≤ w'.heap.size)
    (hc : w'.heap[fb]? = some (.cells #[.int .i64 m.addN, pt (L.bk b.id), .int .i64 0, .int .i64 0, .bool false, .bool true, .bool true, .bool false, .bool false, .bool true] 77 (0, 0)))
    (hp : w'.heap[L.p]? = some (.cells #[L.vb, v] 67 (0, 0)))
    (hr : w'.ownsRow 0 74 1 v (m.files.length + 1) (((m.files.take (m.addN - 1)).map fun f => pt (L.fl f.num)) ++ pt fb :: (m.files.drop (m.addN - 1)).map fun f => pt (L.fl f.num)))
    (ho : ∀ k, k < w.heap.size → k ≠ L.p → L.vf.ownBlock ≠ some k → w'.heap[k]? = w.heap[k]?) :
    St κ w (κF κ fb m.addN v) (L.addF fb m.addN v) w' (m.addF b.id) := by
  obtain ⟨l1, l2, e1, e2, e3, e4, e5⟩ := add_split h.ok b.id
  have eN : m.addN - 1 = l1.length := by omega
  have hnum : ∀ f ∈ m.files, f.num ≠ m.addN := fun f hf => by
    rw [e1] at hf
    rcases List.mem_append.1 hf with hf | hf
    · exact Nat.ne_of_lt (e4 f hf)
    · exact Nat.ne_of_gt (e5 f hf)
  have hm : ∀ f, f ∈ (m.addF b.id).files → f ∈ m.files ∨ f = freshF m.addN b.id := fun f hf => by
    rw [e2] at hf
    rw [e1]
    rcases List.mem_append.1 hf with hf | hf
    · exact .inl (List.mem_append_left _ hf)
    · rcases List.mem_cons.1 hf with rfl | hf
      · exact .inr rfl
      · exact .inl (List.mem_append_right _ hf)
  have hfl : ∀ f ∈ m.files, (L.addF fb m.addN v).fl f.num = L.fl f.num := fun f hf => if_neg (hnum f hf)
  have hfn : (L.addF fb m.addN v).fl m.addN = fb := if_pos rfl
  have hvlt : ∀ g, v.ownBlock = some g → g < w'.heap.size := fun g hg => (hr.lt g hg).2
  have hκ : ∀ k, k < w.heap.size → κ k ≠ .rf → κF κ fb m.addN v k = κ k := fun k hk hn => by
    unfold κF
    rw [if_neg (by omega), if_neg]
    intro e
    rcases hv with hv | ⟨g, hg, hgs, _⟩
    · exact hn (h.tf k (hv ▸ e))
    · rw [hg] at e; injection e; omega
  have hκr : ∀ k, v.ownBlock = some k → κF κ fb m.addN v k = .rf := fun k hk => by
    unfold κF
    rw [if_neg ?_, if_pos hk]
    rintro rfl
    rcases hv with hv | ⟨g, hg, _, hgn⟩
    · have := h.lt (k := k) (by rw [h.tf k (hv ▸ hk)]; exact Tag.noConfusion)
      omega
    · rw [hg] at hk; injection hk with hk; exact hgn hk
  have hoth : ∀ k, κ k ≠ .no → κ k ≠ .wd → κ k ≠ .rf → w'.heap[k]? = w.heap[k]? := fun k k1 k2 k3 =>
    ho k (h.lt k1) (fun e => k2 (e ▸ h.tp)) (fun e => k3 (h.tf k e))
  refine ⟨⟨h.ok.addF hb hl, ?_, hp, ?_, ?_, ?_, ?_, ?_, ?_, ?_, ?_, ?_, ?_⟩, ?_⟩
  · exact (hκ L.p (h.lt (by rw [h.tp]; exact Tag.noConfusion)) (by rw [h.tp]; exact Tag.noConfusion)).trans h.tp
  · exact ownsRow_of_block h.rb fun g hg => hoth g (by rw [h.tb g hg]; exact Tag.noConfusion) (by rw [h.tb g hg]; exact Tag.noConfusion) (by rw [h.tb g hg]; exact Tag.noConfusion)
  · exact fun g hg => (hκ g (h.lt (by rw [h.tb g hg]; exact Tag.noConfusion)) (by rw [h.tb g hg]; exact Tag.noConfusion)).trans (h.tb g hg)
  · have e : ((m.addF b.id).files.map fun f => pt ((L.addF fb m.addN v).fl f.num)) = ((m.files.take (m.addN - 1)).map fun f => pt (L.fl f.num)) ++ pt fb :: (m.files.drop (m.addN - 1)).map fun f => pt (L.fl f.num) := by
      rw [e2, eN, e1, List.take_left, List.drop_left, List.map_append, List.map_cons]
      have q1 : (l1.map fun f => pt ((L.addF fb m.addN v).fl f.num)) = l1.map fun f => pt (L.fl f.num) := List.map_congr_left fun f hf => by rw [hfl f (by rw [e1]; exact List.mem_append_left _ hf)]
      have q2 : (l2.map fun f => pt ((L.addF fb m.addN v).fl f.num)) = l2.map fun f => pt (L.fl f.num) := List.map_congr_left fun f hf => by rw [hfl f (by rw [e1]; exact List.mem_append_right _ hf)]
      rw [q1, q2]
      show _ ++ pt ((L.addF fb m.addN v).fl m.addN) :: _ = _
      rw [hfn]
    have e' : (m.addF b.id).files.length = m.files.length + 1 := by
      rw [e2, e1]; simp only [List.length_append, List.length_cons]; omega
    rw [e, e']
    exact hr
  · exact fun g hg => hκr g hg
  · exact fun c hc => (hκ (L.bk c.id) (h.lt (by rw [h.kb c hc]; exact Tag.noConfusion)) (by rw [h.kb c hc]; exact Tag.noConfusion)).trans (h.kb c hc)
  · exact fun c hc => (hoth (L.bk c.id) (by rw [h.kb c hc]; exact Tag.noConfusion) (by rw [h.kb c hc]; exact Tag.noConfusion) (by rw [h.kb c hc]; exact Tag.noConfusion)).trans (h.hb c hc)
  · exact fun c hc => (h.tx c hc).of_block (fun g hg => (hκ g (h.lt (by rw [hg]; exact Tag.noConfusion)) (by rw [hg]; exact Tag.noConfusion)).trans hg) (fun g hg => hoth g (by rw [hg]; exact Tag.noConfusion) (by rw [hg]; exact Tag.noConfusion) (by rw [hg]; exact Tag.noConfusion))
  · intro f hf
    rcases hm f hf with hf | rfl
    · rw [hfl f hf]
      exact (hκ (L.fl f.num) (h.lt (by rw [h.kf f hf]; exact Tag.noConfusion)) (by rw [h.kf f hf]; exact Tag.noConfusion)).trans (h.kf f hf)
    · show κF κ fb m.addN v ((L.addF fb m.addN v).fl m.addN) = .fl m.addN
      rw [hfn]; exact if_pos rfl
  · intro f hf
    rcases hm f hf with hf | rfl
    · rw [hfl f hf]
      exact (hoth (L.fl f.num) (by rw [h.kf f hf]; exact Tag.noConfusion) (by rw [h.kf f hf]; exact Tag.noConfusion) (by rw [h.kf f hf]; exact Tag.noConfusion)).trans (h.hf f hf)
    · show w'.heap[(L.addF fb m.addN v).fl m.addN]? = _
      rw [hfn]; exact hc
  · intro k hk
    unfold κF
    have hfb' : fb < w'.heap.size := (Array.getElem?_eq_some_iff.1 hc).1
    rw [if_neg (by omega), if_neg (fun e => by have := hvlt k e; omega)]
    exact h.top k (by omega)
  · refine ⟨h1, h2, h3, hsz, fun k hk hn => ho k hk (fun e => ?_) (fun e => ?_), fun k hk => ?_⟩
    · rw [e, h.tp] at hn; exact Tag.noConfusion hn
    · rw [h.tf k e] at hn; exact Tag.noConfusion hn
    · by_cases hr : κ k = .rf
      · rw [hr]
        unfold κF
        rw [if_neg (by omega)]
        split <;> simp_all
      · rw [hκ k hk hr]
end Go.Proofs.YtonmdifmlpfcpaaDoor.PB
