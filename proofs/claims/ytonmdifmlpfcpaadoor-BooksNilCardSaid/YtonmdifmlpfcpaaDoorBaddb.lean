import Derived.StillTailTactics
import Derived.ArgAppend
import Derived.Below
import Derived.BigQuiet
import Derived.Deep.AppendLies
import Derived.Deep.CutBlock
import Derived.Deep.DeepCutAuto
import Derived.Deep.Draws
import Derived.Deep.LoopGhost
import Derived.Deep.OwnRows
import Derived.Deep.QuietTactic
import Derived.Deep.RegionHeld3
import Derived.KernelRfl
import Derived.Laws.Bits64b
import Derived.Laws.BitsLemmas
import Derived.Laws.BytesArg
import Derived.Laws.Externs
import Derived.Laws.IdiomCopy
import Derived.Laws.MakeOwn
import Derived.Laws.MathBits
import Derived.Laws.OwnMore
import Derived.Laws.Rows
import Derived.Laws.Slices
import Derived.Lib.AppendStr
import Derived.Lib.ConvBytes
import Derived.Maps.AppendAt
import Derived.OrdersHeld
import Derived.OwnWalk
import Derived.RowKit
import Derived.RowKit3
import Derived.Tactics
import Derived.Test.YtonmdifmlpfcpaaDoorProg
import Derived.WalkKit
import Derived.WideLaws
import Derived.Lib.Walk
import Derived.Lib.SliceRun
import Derived.Lib.JoinLaws
import Derived.Lib.AppendZeros
import Derived.Lib.Overlaps
import Derived.Lib.AppendZerosOnto
import Derived.Shelf.RegionOpenPlain
import Derived.Shelf.Spec.SlicesInsert
import Derived.Deep.RegionLaw
import Derived.Test.YtonmdifmlpfcpaaDoorWWords
import Derived.Test.YtonmdifmlpfcpaaDoorWLast
import Derived.Test.YtonmdifmlpfcpaaDoorWTab
import Derived.Test.YtonmdifmlpfcpaaDoorWFour
import Derived.Test.YtonmdifmlpfcpaaDoorWQPut
import Derived.Test.YtonmdifmlpfcpaaDoorWApart
import Derived.Test.YtonmdifmlpfcpaaDoorWArr
import Derived.Test.YtonmdifmlpfcpaaDoorWZeros
import Derived.Test.YtonmdifmlpfcpaaDoorWFoot
import Derived.Test.YtonmdifmlpfcpaaDoorWKept
import Derived.Test.YtonmdifmlpfcpaaDoorWShare
import Derived.Test.YtonmdifmlpfcpaaDoorWN
import Derived.Test.YtonmdifmlpfcpaaDoorWFootNe
import Derived.Test.YtonmdifmlpfcpaaDoorWAt
import Derived.Test.YtonmdifmlpfcpaaDoorWEqStruct
import Derived.Test.YtonmdifmlpfcpaaDoorWRepsOne
import Derived.Test.YtonmdifmlpfcpaaDoorWInv
import Derived.Test.YtonmdifmlpfcpaaDoorWInvWords
import Derived.Test.YtonmdifmlpfcpaaDoorWGuard
import Derived.Test.YtonmdifmlpfcpaaDoorWNEv
import Derived.Test.YtonmdifmlpfcpaaDoorWMore
import Derived.Test.YtonmdifmlpfcpaaDoorBwa
namespace Go.Proofs.YtonmdifmlpfcpaaDoor.PB
open Go.RowKit Go.Proofs.YtonmdifmlpfcpaaDoorW.PrintWords Go.Proofs.YtonmdifmlpfcpaaDoorW.PrintLast Go.Proofs.YtonmdifmlpfcpaaDoorW.PrintMore
set_option linter.unusedVariables false
set_option linter.unusedSimpArgs false
set_option maxRecDepth 100000
set_option maxHeartbeats 1000000
def MW.addB (m : MW) (name : ByteArray) (text : List UInt8) (wr : Bool) : MW := { m with next := m.next + 1, books := m.books ++ [⟨m.next, name, text, wr⟩] }
theorem MW.ok.addB {m : MW} (h : m.ok) (name : ByteArray) (text : List UInt8) (wr : Bool) (hl : m.books.length < 67) (ht : text.length ≤ 1048576) : (m.addB name text wr).ok := by
  have hm : ∀ b, b ∈ (m.addB name text wr).books → b ∈ m.books ∨ b = ⟨m.next, name, text, wr⟩ := fun b hb => by
    rcases List.mem_append.1 hb with hb | hb
    · exact .inl hb
    · exact .inr (List.mem_singleton.1 hb)
  refine ⟨?_, h.fs, ?_, fun b hb => ?_, fun b hb => ?_, h.nums, h.pos, fun f hf => ?_⟩
  · show (m.books ++ [_]).length ≤ 67
    rw [List.length_append]; simp; omega
  · show ((m.books ++ [_]).map MBk.id).Nodup
    rw [List.map_append, List.nodup_append]
    refine ⟨h.ids, by simp, fun a ha c hc => ?_⟩
    obtain ⟨b, hb, rfl⟩ := List.mem_map.1 ha
    have := h.lt b hb
    simp at hc
    omega
  · show b.id < m.next + 1
    rcases hm b hb with hb | rfl
    · have := h.lt b hb; omega
    · exact Nat.lt_succ_self _
  · rcases hm b hb with hb | rfl
    · exact h.tx b hb
    · exact ht
  · obtain ⟨b, hb, e⟩ := h.has f hf
    exact ⟨b, List.mem_append_left _ hb, e⟩
def κB (κ : Nat → Tag) (nb id : Nat) (tv v : Value) : Nat → Tag := fun k => if k = nb then .bk id else if tv.ownBlock = some k then .tx id else if v.ownBlock = some k then .rb else κ k
def Lay.addB (L : Lay) (nb id : Nat) (tv v : Value) : Lay := { L with vb := v, bk := fun k => if k = id then nb else L.bk k, tv := fun k => if k = id then tv else L.tv k }
theorem WAt.addB {κ : Nat → Tag} {L : Lay} {w w' : World} {m : MW} (h : WAt κ L w m) (hl : m.books.length < 67) (name : ByteArray) (text : List UInt8) (wr : Bool) (ht : text.length ≤ 1048576) (nb : Nat) (tv v : Value)
    (hnb : w.heap.size ≤ nb) (htv : ∀ g, tv.ownBlock = some g → w.heap.size ≤ g ∧ g ≠ nb ∧ g < w'.heap.size) (hv : v.ownBlock = L.vb.ownBlock ∨ ∃ g, v.ownBlock = some g ∧ w.heap.size ≤ g ∧ g ≠ nb ∧ tv.ownBlock ≠ some g)
    (h1 : w'.os = w.os) (h2 : w'.tape = w.tape) (h3 : w'.output = w.output) (hsz : w.heap.size ≤ w'.heap.size)
    (hc : w'.heap[nb]? = some (.cells #[.string name, tv, .bool wr] 72 (0, 0)))
    (htx : ∀ κ' : Nat → Tag, (∀ g, tv.ownBlock = some g → κ' g = .tx m.next) → TxAt κ' (.tx m.next) w' tv text)
    (hp : w'.heap[L.p]? = some (.cells #[v, L.vf] 67 (0, 0)))
    (hr : w'.ownsRow 0 69 1 v (m.books.length + 1) ((m.books.map fun b => pt (L.bk b.id)) ++ [pt nb]))
    (ho : ∀ k, k < w.heap.size → k ≠ L.p → L.vb.ownBlock ≠ some k → w'.heap[k]? = w.heap[k]?) :
    St κ w (κB κ nb m.next tv v) (L.addB nb m.next tv v) w' (m.addB name text wr) := by
  have hid : ∀ b ∈ m.books, b.id ≠ m.next := fun b hb => Nat.ne_of_lt (h.ok.lt b hb)
  have hm : ∀ b, b ∈ (m.addB name text wr).books → b ∈ m.books ∨ b = ⟨m.next, name, text, wr⟩ := fun b hb => by
    rcases List.mem_append.1 hb with hb | hb
    · exact .inl hb
    · exact .inr (List.mem_singleton.1 hb)
  have hbk : ∀ b ∈ m.books, (L.addB nb m.next tv v).bk b.id = L.bk b.id := fun b hb => if_neg (hid b hb)
  have htv' : ∀ b ∈ m.books, (L.addB nb m.next tv v).tv b.id = L.tv b.id := fun b hb => if_neg (hid b hb)
  have hbn : (L.addB nb m.next tv v).bk m.next = nb := if_pos rfl
  have htn : (L.addB nb m.next tv v).tv m.next = tv := if_pos rfl
  have hκ : ∀ k, k < w.heap.size → κ k ≠ .rb → κB κ nb m.next tv v k = κ k := fun k hk hn => by
    unfold κB
    rw [if_neg (by omega), if_neg (fun e => by have := (htv k e).1; omega), if_neg]
    intro e
    rcases hv with hv | ⟨g, hg, hgs, _⟩
    · exact hn (h.tb k (hv ▸ e))
    · rw [hg] at e; injection e; omega
  have hκr : ∀ k, v.ownBlock = some k → κB κ nb m.next tv v k = .rb := fun k hk => by
    unfold κB
    rcases hv with hv | ⟨g, hg, hgs, hgn, hgt⟩
    · have := h.lt (k := k) (by rw [h.tb k (hv ▸ hk)]; exact Tag.noConfusion)
      rw [if_neg (by omega), if_neg (fun e => by have := (htv k e).1; omega), if_pos hk]
    · have : g = k := by rw [hg] at hk; injection hk
      subst this
      rw [if_neg hgn, if_neg hgt, if_pos hk]
  have hκt : ∀ g, tv.ownBlock = some g → κB κ nb m.next tv v g = .tx m.next := fun g hg => by
    unfold κB
    rw [if_neg (htv g hg).2.1, if_pos hg]
  have hoth : ∀ k, κ k ≠ .no → κ k ≠ .wd → κ k ≠ .rb → w'.heap[k]? = w.heap[k]? := fun k k1 k2 k3 =>
    ho k (h.lt k1) (fun e => k2 (e ▸ h.tp)) (fun e => k3 (h.tb k e))
  refine ⟨⟨h.ok.addB name text wr hl ht, ?_, hp, ?_, ?_, ?_, ?_, ?_, ?_, ?_, ?_, ?_, ?_⟩, ?_⟩
  · exact (hκ L.p (h.lt (by rw [h.tp]; exact Tag.noConfusion)) (by rw [h.tp]; exact Tag.noConfusion)).trans h.tp
  · have e : ((m.addB name text wr).books.map fun b => pt ((L.addB nb m.next tv v).bk b.id)) = (m.books.map fun b => pt (L.bk b.id)) ++ [pt nb] := by
      show ((m.books ++ [_]).map _) = _
      rw [List.map_append, List.map_singleton]
      have q1 : (m.books.map fun b => pt ((L.addB nb m.next tv v).bk b.id)) = m.books.map fun b => pt (L.bk b.id) := List.map_congr_left fun b hb => by rw [hbk b hb]
      rw [q1]
      show _ ++ [pt ((L.addB nb m.next tv v).bk m.next)] = _
      rw [hbn]
    have e' : (m.addB name text wr).books.length = m.books.length + 1 := by show (m.books ++ [_]).length = _; simp
    rw [e, e']
    exact hr
  · exact fun g hg => hκr g hg
  · exact ownsRow_of_block h.rf fun g hg => hoth g (by rw [h.tf g hg]; exact Tag.noConfusion) (by rw [h.tf g hg]; exact Tag.noConfusion) (by rw [h.tf g hg]; exact Tag.noConfusion)
  · exact fun g hg => (hκ g (h.lt (by rw [h.tf g hg]; exact Tag.noConfusion)) (by rw [h.tf g hg]; exact Tag.noConfusion)).trans (h.tf g hg)
  · intro b hb
    rcases hm b hb with hb | rfl
    · rw [hbk b hb]
      exact (hκ (L.bk b.id) (h.lt (by rw [h.kb b hb]; exact Tag.noConfusion)) (by rw [h.kb b hb]; exact Tag.noConfusion)).trans (h.kb b hb)
    · show κB κ nb m.next tv v ((L.addB nb m.next tv v).bk m.next) = .bk m.next
      rw [hbn]; exact if_pos rfl
  · intro b hb
    rcases hm b hb with hb | rfl
    · have e : (L.addB nb m.next tv v).bcells b = L.bcells b := by unfold Lay.bcells; rw [htv' b hb]
      rw [hbk b hb, e]
      exact (hoth (L.bk b.id) (by rw [h.kb b hb]; exact Tag.noConfusion) (by rw [h.kb b hb]; exact Tag.noConfusion) (by rw [h.kb b hb]; exact Tag.noConfusion)).trans (h.hb b hb)
    · show w'.heap[(L.addB nb m.next tv v).bk m.next]? = some (.cells #[.string name, (L.addB nb m.next tv v).tv m.next, .bool wr] _ (0, 0))
      rw [hbn, htn]; exact hc
  · intro b hb
    rcases hm b hb with hb | rfl
    · rw [htv' b hb]
      exact (h.tx b hb).of_block (fun g hg => (hκ g (h.lt (by rw [hg]; exact Tag.noConfusion)) (by rw [hg]; exact Tag.noConfusion)).trans hg) (fun g hg => hoth g (by rw [hg]; exact Tag.noConfusion) (by rw [hg]; exact Tag.noConfusion) (by rw [hg]; exact Tag.noConfusion))
    · show TxAt _ (.tx m.next) w' ((L.addB nb m.next tv v).tv m.next) text
      rw [htn]; exact htx _ hκt
  · exact fun f hf => (hκ (L.fl f.num) (h.lt (by rw [h.kf f hf]; exact Tag.noConfusion)) (by rw [h.kf f hf]; exact Tag.noConfusion)).trans (h.kf f hf)
  · intro f hf
    obtain ⟨b, hb, e⟩ := h.ok.has f hf
    have e' : (L.addB nb m.next tv v).fcells f = L.fcells f := by
      unfold Lay.fcells
      rw [← e, hbk b hb]
    rw [e']
    exact (hoth (L.fl f.num) (by rw [h.kf f hf]; exact Tag.noConfusion) (by rw [h.kf f hf]; exact Tag.noConfusion) (by rw [h.kf f hf]; exact Tag.noConfusion)).trans (h.hf f hf)
  · intro k hk
    have hnb' : nb < w'.heap.size := (Array.getElem?_eq_some_iff.1 hc).1
    unfold κB
    rw [if_neg (by omega), if_neg (fun e => by have := (htv k e).2.2; omega), if_neg (fun e => by have := (hr.lt k e).2; omega)]
    exact h.top k (by omega)
  · refine ⟨h1, h2, h3, hsz, fun k hk hn => ho k hk (fun e => ?_) (fun e => ?_), fun k hk => ?_⟩
    · rw [e, h.tp] at hn; exact Tag.noConfusion hn
    · rw [h.tb k e] at hn; exact Tag.noConfusion hn
    · by_cases hrb : κ k = .rb
      · rw [hrb]
        unfold κB
        rw [if_neg (by omega), if_neg (fun e => by have := (htv k e).1; omega)]
        split <;> simp_all
      · rw [hκ k hk hrb]
end Go.Proofs.YtonmdifmlpfcpaaDoor.PB
