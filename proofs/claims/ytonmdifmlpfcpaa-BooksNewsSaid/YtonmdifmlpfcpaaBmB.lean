import Derived.StillTailTactics
import Derived.ArgAppend
import Derived.Below
import Derived.BigQuiet
import Derived.Deep.AppendLies
import Derived.Deep.CutBlock
import Derived.Deep.DeepCutAuto
import Derived.Deep.Draws
import Derived.Deep.LoopGhost
import Derived.Deep.OwnRows
import Derived.Deep.QuietTactic
import Derived.Deep.RegionHeld3
import Derived.KernelRfl
import Derived.Laws.Bits64b
import Derived.Laws.BitsLemmas
import Derived.Laws.BytesArg
import Derived.Laws.Externs
import Derived.Laws.IdiomCopy
import Derived.Laws.MakeOwn
import Derived.Laws.MathBits
import Derived.Laws.OwnMore
import Derived.Laws.Rows
import Derived.Laws.Slices
import Derived.Lib.AppendStr
import Derived.Lib.ConvBytes
import Derived.Maps.AppendAt
import Derived.OrdersHeld
import Derived.OwnWalk
import Derived.RowKit
import Derived.RowKit3
import Derived.Tactics
import Derived.Test.YtonmdifmlpfcpaaProg
import Derived.WalkKit
import Derived.WideLaws
import Derived.Lib.Walk
import Derived.Lib.SliceRun
import Derived.Lib.JoinLaws
import Derived.Lib.AppendZeros
import Derived.Lib.Overlaps
import Derived.Lib.AppendZerosOnto
import Derived.Shelf.RegionOpenPlain
import Derived.Shelf.Spec.SlicesInsert
import Derived.Deep.RegionLaw
import Derived.Lib.BufferRead
import Derived.Laws.IdiomStrings
import Derived.Test.YtonmdifmlpfcpaaWWords
import Derived.Test.YtonmdifmlpfcpaaWLast
import Derived.Test.YtonmdifmlpfcpaaWTab
import Derived.Test.YtonmdifmlpfcpaaWFour
import Derived.Test.YtonmdifmlpfcpaaWQPut
import Derived.Test.YtonmdifmlpfcpaaWApart
import Derived.Test.YtonmdifmlpfcpaaWArr
import Derived.Test.YtonmdifmlpfcpaaWZeros
import Derived.Test.YtonmdifmlpfcpaaWFoot
import Derived.Test.YtonmdifmlpfcpaaWKept
import Derived.Test.YtonmdifmlpfcpaaWShare
import Derived.Test.YtonmdifmlpfcpaaWN
import Derived.Test.YtonmdifmlpfcpaaWFootNe
import Derived.Test.YtonmdifmlpfcpaaWAt
import Derived.Test.YtonmdifmlpfcpaaWEqStruct
import Derived.Test.YtonmdifmlpfcpaaWRepsOne
import Derived.Test.YtonmdifmlpfcpaaWInv
import Derived.Test.YtonmdifmlpfcpaaWInvWords
import Derived.Test.YtonmdifmlpfcpaaWGuard
import Derived.Test.YtonmdifmlpfcpaaWNEv
import Derived.Test.YtonmdifmlpfcpaaWMore
import Derived.Test.YtonmdifmlpfcpaaBmA
namespace Go.Proofs.Ytonmdifmlpfcpaa.PB
open Go.RowKit Go.Proofs.YtonmdifmlpfcpaaW.PrintWords Go.Proofs.YtonmdifmlpfcpaaW.PrintLast Go.Proofs.YtonmdifmlpfcpaaW.PrintMore
set_option linter.unusedVariables false
set_option linter.unusedSimpArgs false
set_option maxRecDepth 100000
set_option maxHeartbeats 1000000
theorem infoB : (Try.prog.info? 59).map (fun i => (i.zero, i.size, i.bytes)) = some (some (.pointer none), 1, 8) := by kernel_rfl
theorem infoF : (Try.prog.info? 64).map (fun i => (i.zero, i.size, i.bytes)) = some (some (.pointer none), 1, 8) := by kernel_rfl
theorem append_ptr {t e : TypeId} (ht : Try.prog.underlying t = some (.slice e)) (hinfo : (Try.prog.info? e).map (fun i => (i.zero, i.size, i.bytes)) = some (some (.pointer none), 1, 8)) (v : Value) (n : Nat) (xs : List Value) (w : World) (hown : w.ownsRow 0 e 1 v n xs) (vb : Nat) (p : Value) (hp : p.oneCell' = true) (hc : w.cell? ⟨vb, 0, none⟩ = some p) (hn : n ≤ 1000) (ty : TypeId) :
    ∃ v' w', (Builtin.append_ #[t, t] ty #[v, .slice (some ⟨vb, 0, none⟩) 1 1]).run Try.prog w = .ok v' w' ∧ w'.ownsRow 0 e 1 v' (n + 1) (xs ++ [p]) ∧ w.grownBy w' v.ownBlock ∧ (v'.ownBlock = v.ownBlock ∨ v'.ownBlock = some w.heap.size) := by
  obtain ⟨i0, hi, hz0, hz1, hz2⟩ := info_parts hinfo
  obtain ⟨v1, w1, hr, h2, h3, _, h5⟩ := run_append_own_at (P := Try.prog) w 0 t ty e i0 (.pointer none) 1 8 ht hi hz0 hz1 hz2 rfl (by omega) v n xs hown ⟨vb, 0, none⟩ 1 1 [p] (by simp) (fun j u hu => by
    cases j with
    | zero => simp at hu; subst hu; exact hc
    | succ j => simp at hu) (by simpa using hp) (by simp only [maxLen]; omega) (by omega) (Nat.zero_le _)
  exact ⟨v1, w1, hr, h2, h3, h5⟩
theorem insert_end (v : Value) (n : Nat) (xs : List Value) (w : World) (hown : w.ownsRow 0 64 1 v n xs) (vb : Nat) (p : Value) (hp : p.oneCell' = true) (hc : w.cell? ⟨vb, 0, none⟩ = some p) (hn : n ≤ 1000) :
    Calls Try.prog 56 #[v, .int .i64 n, .slice (some ⟨vb, 0, none⟩) 1 1] w fun e w' => ∃ v', e = .returned v' ∧ w'.ownsRow 0 64 1 v' (n + 1) (xs ++ [p]) ∧ w.grownBy w' v.ownBlock ∧ (v'.ownBlock = v.ownBlock ∨ v'.ownBlock = some w.heap.size) := by
  obtain ⟨v1, w1, hr, h2, h3, h5⟩ := append_ptr (t := 55) Try.underlying55 infoF v n xs w hown vb p hp hc hn 55
  have H2 := Aside0.mk h2
  have H3 := Aside0.mk h3
  have H5 := Aside0.mk h5
  rcases row_cases hown with ⟨rfl, rfl⟩ | ⟨g, cap, rfl, hcap, hm, _⟩
  · clear hown h2 h3 h5
    rcases row_cases H2.out with ⟨rfl, h0⟩ | ⟨g', cap', rfl, _, _, _⟩
    · exact absurd h0 (by omega)
    go_enter Try.func56, Try.ntmps56
    go_wp2_with (at_builtin; refine Lib.wpList_append_run _ rfl _ _ _ _ rfl _ _ rfl rfl _ _ hr ?_)
    all_goals (go_ret; exact ⟨_, rfl, H2.out, H3.out, H5.out⟩)
  · clear hown h2 h3 h5
    have hm' : cap ≤ 9223372036854775807 := hm
    rcases row_cases H2.out with ⟨rfl, h0⟩ | ⟨g', cap', rfl, _, _, _⟩
    · exact absurd h0 (by omega)
    go_enter Try.func56, Try.ntmps56
    go_wp2_with (at_builtin; refine Lib.wpList_append_run _ rfl _ _ _ _ rfl _ _ rfl rfl _ _ hr ?_)
    all_goals (go_ret; exact ⟨_, rfl, H2.out, H3.out, H5.out⟩)
def leastN : List MFl → Nat → Nat
  | [], n => n
  | f :: r, n => leastN r (if f.num = n then n + 1 else n)
def freshF (n id : Nat) : MFl := { num := n, bk := id, pos := 0, mood := 0, fl := fun e => decide (e = 1 ∨ e = 2 ∨ e = 5) }
theorem leastN_le : ∀ (l : List MFl) (n : Nat), n ≤ leastN l n ∧ leastN l n ≤ n + l.length
  | [], n => ⟨Nat.le_refl _, Nat.le_refl _⟩
  | f :: r, n => by
    unfold leastN
    have := leastN_le r (if f.num = n then n + 1 else n)
    rw [List.length_cons]
    split at this <;> rename_i h
    · rw [if_pos h]; omega
    · rw [if_neg h]; omega
theorem leastN_gt : ∀ (l : List MFl) (n : Nat), (∀ f ∈ l, n < f.num) → leastN l n = n
  | [], n, _ => rfl
  | f :: r, n, h => by
    unfold leastN
    have h1 := h f (List.mem_cons_self ..)
    rw [if_neg (by omega)]
    exact leastN_gt r n fun g hg => h g (List.mem_cons_of_mem _ hg)
theorem leastN_split : ∀ (l : List MFl) (k : Nat), (l.map MFl.num).Pairwise (· < ·) → (∀ f ∈ l, k ≤ f.num) → ∃ l1 l2, l = l1 ++ l2 ∧ l1.length + k = leastN l k ∧ (∀ f ∈ l1, f.num < leastN l k) ∧ ∀ f ∈ l2, leastN l k < f.num
  | [], k, _, _ => ⟨[], [], rfl, by simp [leastN], fun _ h => absurd h List.not_mem_nil, fun _ h => absurd h List.not_mem_nil⟩
  | f :: r, k, hp, hk => by
    rw [List.map_cons, List.pairwise_cons] at hp
    have hr : ∀ g ∈ r, f.num < g.num := fun g hg => hp.1 _ (List.mem_map_of_mem hg)
    have h0 := hk f (List.mem_cons_self ..)
    unfold leastN
    by_cases e : f.num = k
    · rw [if_pos e]
      obtain ⟨l1, l2, h1, h2, h3, h4⟩ := leastN_split r (k + 1) hp.2 fun g hg => by have := hr g hg; omega
      refine ⟨f :: l1, l2, by rw [h1]; rfl, by rw [List.length_cons]; omega, fun g hg => ?_, h4⟩
      rcases List.mem_cons.1 hg with rfl | hg
      · have := (leastN_le r (k + 1)).1; omega
      · exact h3 g hg
    · rw [if_neg e, leastN_gt r k fun g hg => by have := hr g hg; omega]
      refine ⟨[], f :: r, rfl, by simp, fun _ h => absurd h List.not_mem_nil, fun g hg => ?_⟩
      rcases List.mem_cons.1 hg with rfl | hg
      · omega
      · have := hr g hg; omega
def MW.addN (m : MW) : Nat := leastN m.files 1
def MW.addF (m : MW) (id : Nat) : MW := { m with files := m.files.take (m.addN - 1) ++ freshF m.addN id :: m.files.drop (m.addN - 1) }
theorem add_split {m : MW} (h : m.ok) (id : Nat) : ∃ l1 l2, m.files = l1 ++ l2 ∧ (m.addF id).files = l1 ++ freshF m.addN id :: l2 ∧ l1.length + 1 = m.addN ∧ (∀ f ∈ l1, f.num < m.addN) ∧ ∀ f ∈ l2, m.addN < f.num := by
  obtain ⟨l1, l2, h1, h2, h3, h4⟩ := leastN_split m.files 1 h.nums fun f hf => (h.pos f hf).1
  refine ⟨l1, l2, h1, ?_, h2, h3, h4⟩
  have e : m.addN - 1 = l1.length := by unfold MW.addN; omega
  unfold MW.addF
  show m.files.take (m.addN - 1) ++ _ :: m.files.drop (m.addN - 1) = _
  rw [e, h1, List.take_left, List.drop_left]
theorem MW.ok.addF {m : MW} (h : m.ok) {b : MBk} (hb : b ∈ m.books) (hl : m.files.length < 20) : (m.addF b.id).ok := by
  obtain ⟨l1, l2, h1, h2, h3, h4, h5⟩ := add_split h b.id
  have hm : ∀ f, f ∈ (m.addF b.id).files → f ∈ m.files ∨ f = freshF m.addN b.id := fun f hf => by
    rw [h2] at hf
    rw [h1]
    rcases List.mem_append.1 hf with hf | hf
    · exact .inl (List.mem_append_left _ hf)
    · rcases List.mem_cons.1 hf with rfl | hf
      · exact .inr rfl
      · exact .inl (List.mem_append_right _ hf)
  refine ⟨h.bs, ?_, h.ids, h.lt, h.tx, ?_, fun f hf => ?_, fun f hf => ?_⟩
  · rw [h2, List.length_append, List.length_cons]
    have := congrArg List.length h1
    rw [List.length_append] at this
    omega
  · have hp := h.nums
    rw [h1, List.map_append, List.pairwise_append] at hp
    rw [h2, List.map_append, List.map_cons, List.pairwise_append]
    refine ⟨hp.1, List.pairwise_cons.2 ⟨fun n hn => ?_, hp.2.1⟩, fun a ha c hc => ?_⟩
    · obtain ⟨f, hf, rfl⟩ := List.mem_map.1 hn
      exact h5 f hf
    · rcases List.mem_cons.1 hc with rfl | hc
      · obtain ⟨f, hf, rfl⟩ := List.mem_map.1 ha
        exact h4 f hf
      · exact hp.2.2 a ha c hc
  · rcases hm f hf with hf | rfl
    · exact h.pos f hf
    · exact ⟨by show 1 ≤ m.addN; omega, Nat.zero_le _⟩
  · rcases hm f hf with hf | rfl
    · exact h.has f hf
    · exact ⟨b, hb, rfl⟩
def κF (κ : Nat → Tag) (fb n : Nat) (v : Value) : Nat → Tag := fun k => if k = fb then .fl n else if v.ownBlock = some k then .rf else κ k
def Lay.addF (L : Lay) (fb n : Nat) (v : Value) : Lay := { L with vf := v, fl := fun k => if k = n then fb else L.fl k }
theorem WAt.addF {κ : Nat → Tag} {L : Lay} {w w' : World} {m : MW} (h : WAt κ L w m) {b : MBk} (hb : b ∈ m.books) (hl : m.files.length < 20) (fb : Nat) (v : Value)
    (hfb : w.heap.size ≤ fb) (hv : v.ownBlock = L.vf.ownBlock ∨ ∃ g, v.ownBlock = some g ∧ w.heap.size ≤ g ∧ g ≠ fb) (h1 : w'.os = w.os) (h2 : w'.tape = w.tape) (h3 : w'.output = w.output) (hsz : w.heap.size ≤ w'.heap.size)
    (hc : w'.heap[fb]? = some (.cells #[.int .i64 m.addN, pt (L.bk b.id), .int .i64 0, .int .i64 0, .bool false, .bool true, .bool true, .bool false, .bool false, .bool true] 68 (0, 0)))
    (hp : w'.heap[L.p]? = some (.cells #[L.vb, v] 57 (0, 0)))
    (hr : w'.ownsRow 0 64 1 v (m.files.length + 1) (((m.files.take (m.addN - 1)).map fun f => pt (L.fl f.num)) ++ pt fb :: (m.files.drop (m.addN - 1)).map fun f => pt (L.fl f.num)))
    (ho : ∀ k, k < w.heap.size → k ≠ L.p → L.vf.ownBlock ≠ some k → w'.heap[k]? = w.heap[k]?) :
    St κ w (κF κ fb m.addN v) (L.addF fb m.addN v) w' (m.addF b.id) := by
  obtain ⟨l1, l2, e1, e2, e3, e4, e5⟩ := add_split h.ok b.id
  have eN : m.addN - 1 = l1.length := by omega
  have hnum : ∀ f ∈ m.files, f.num ≠ m.addN := fun f hf => by
    rw [e1] at hf
    rcases List.mem_append.1 hf with hf | hf
    · exact Nat.ne_of_lt (e4 f hf)
    · exact Nat.ne_of_gt (e5 f hf)
  have hm : ∀ f, f ∈ (m.addF b.id).files → f ∈ m.files ∨ f = freshF m.addN b.id := fun f hf => by
    rw [e2] at hf
    rw [e1]
    rcases List.mem_append.1 hf with hf | hf
    · exact .inl (List.mem_append_left _ hf)
    · rcases List.mem_cons.1 hf with rfl | hf
      · exact .inr rfl
      · exact .inl (List.mem_append_right _ hf)
  have hfl : ∀ f ∈ m.files, (L.addF fb m.addN v).fl f.num = L.fl f.num := fun f hf => if_neg (hnum f hf)
  have hfn : (L.addF fb m.addN v).fl m.addN = fb := if_pos rfl
  have hvlt : ∀ g, v.ownBlock = some g → g < w'.heap.size := fun g hg => (hr.lt g hg).2
  have hκ : ∀ k, k < w.heap.size → κ k ≠ .rf → κF κ fb m.addN v k = κ k := fun k hk hn => by
    unfold κF
    rw [if_neg (by omega), if_neg]
    intro e
    rcases hv with hv | ⟨g, hg, hgs, _⟩
    · exact hn (h.tf k (hv ▸ e))
    · rw [hg] at e; injection e; omega
  have hκr : ∀ k, v.ownBlock = some k → κF κ fb m.addN v k = .rf := fun k hk => by
    unfold κF
    rw [if_neg ?_, if_pos hk]
    rintro rfl
    rcases hv with hv | ⟨g, hg, _, hgn⟩
    · have := h.lt (k := k) (by rw [h.tf k (hv ▸ hk)]; exact Tag.noConfusion)
      omega
    · rw [hg] at hk; injection hk with hk; exact hgn hk
  have hoth : ∀ k, κ k ≠ .no → κ k ≠ .wd → κ k ≠ .rf → w'.heap[k]? = w.heap[k]? := fun k k1 k2 k3 =>
    ho k (h.lt k1) (fun e => k2 (e ▸ h.tp)) (fun e => k3 (h.tf k e))
  refine ⟨⟨h.ok.addF hb hl, ?_, hp, ?_, ?_, ?_, ?_, ?_, ?_, ?_, ?_, ?_, ?_⟩, ?_⟩
  · exact (hκ L.p (h.lt (by rw [h.tp]; exact Tag.noConfusion)) (by rw [h.tp]; exact Tag.noConfusion)).trans h.tp
  · exact ownsRow_of_block h.rb fun g hg => hoth g (by rw [h.tb g hg]; exact Tag.noConfusion) (by rw [h.tb g hg]; exact Tag.noConfusion) (by rw [h.tb g hg]; exact Tag.noConfusion)
  · exact fun g hg => (hκ g (h.lt (by rw [h.tb g hg]; exact Tag.noConfusion)) (by rw [h.tb g hg]; exact Tag.noConfusion)).trans (h.tb g hg)
  · have e : ((m.addF b.id).files.map fun f => pt ((L.addF fb m.addN v).fl f.num)) = ((m.files.take (m.addN - 1)).map fun f => pt (L.fl f.num)) ++ pt fb :: (m.files.drop (m.addN - 1)).map fun f => pt (L.fl f.num) := by
      rw [e2, eN, e1, List.take_left, List.drop_left, List.map_append, List.map_cons]
      have q1 : (l1.map fun f => pt ((L.addF fb m.addN v).fl f.num)) = l1.map fun f => pt (L.fl f.num) := List.map_congr_left fun f hf => by rw [hfl f (by rw [e1]; exact List.mem_append_left _ hf)]
      have q2 : (l2.map fun f => pt ((L.addF fb m.addN v).fl f.num)) = l2.map fun f => pt (L.fl f.num) := List.map_congr_left fun f hf => by rw [hfl f (by rw [e1]; exact List.mem_append_right _ hf)]
      rw [q1, q2]
      show _ ++ pt ((L.addF fb m.addN v).fl m.addN) :: _ = _
      rw [hfn]
    have e' : (m.addF b.id).files.length = m.files.length + 1 := by
      rw [e2, e1]; simp only [List.length_append, List.length_cons]; omega
    rw [e, e']
    exact hr
  · exact fun g hg => hκr g hg
  · exact fun c hc => (hκ (L.bk c.id) (h.lt (by rw [h.kb c hc]; exact Tag.noConfusion)) (by rw [h.kb c hc]; exact Tag.noConfusion)).trans (h.kb c hc)
  · exact fun c hc => (hoth (L.bk c.id) (by rw [h.kb c hc]; exact Tag.noConfusion) (by rw [h.kb c hc]; exact Tag.noConfusion) (by rw [h.kb c hc]; exact Tag.noConfusion)).trans (h.hb c hc)
  · exact fun c hc => (h.tx c hc).of_block (fun g hg => (hκ g (h.lt (by rw [hg]; exact Tag.noConfusion)) (by rw [hg]; exact Tag.noConfusion)).trans hg) (fun g hg => hoth g (by rw [hg]; exact Tag.noConfusion) (by rw [hg]; exact Tag.noConfusion) (by rw [hg]; exact Tag.noConfusion))
  · intro f hf
    rcases hm f hf with hf | rfl
    · rw [hfl f hf]
      exact (hκ (L.fl f.num) (h.lt (by rw [h.kf f hf]; exact Tag.noConfusion)) (by rw [h.kf f hf]; exact Tag.noConfusion)).trans (h.kf f hf)
    · show κF κ fb m.addN v ((L.addF fb m.addN v).fl m.addN) = .fl m.addN
      rw [hfn]; exact if_pos rfl
  · intro f hf
    rcases hm f hf with hf | rfl
    · rw [hfl f hf]
      exact (hoth (L.fl f.num) (by rw [h.kf f hf]; exact Tag.noConfusion) (by rw [h.kf f hf]; exact Tag.noConfusion) (by rw [h.kf f hf]; exact Tag.noConfusion)).trans (h.hf f hf)
    · show w'.heap[(L.addF fb m.addN v).fl m.addN]? = _
      rw [hfn]; exact hc
  · intro k hk
    unfold κF
    have hfb' : fb < w'.heap.size := (Array.getElem?_eq_some_iff.1 hc).1
    rw [if_neg (by omega), if_neg (fun e => by have := hvlt k e; omega)]
    exact h.top k (by omega)
  · refine ⟨h1, h2, h3, hsz, fun k hk hn => ho k hk (fun e => ?_) (fun e => ?_), fun k hk => ?_⟩
    · rw [e, h.tp] at hn; exact Tag.noConfusion hn
    · rw [h.tf k e] at hn; exact Tag.noConfusion hn
    · by_cases hr : κ k = .rf
      · rw [hr]
        unfold κF
        rw [if_neg (by omega)]
        split <;> simp_all
      · rw [hκ k hk hr]
theorem row_of_cells {w : World} {e : TypeId} {g n cap : Nat} {cur : Array Value} {xs : List Value} (h : w.heap[g]? = some (.cells cur e (0, 0))) (hn : xs.length = n) (hc : n ≤ cap) (hm : cap ≤ maxLen) (hs : cur.size = cap) (hx : ∀ j, j < n → w.cell? ⟨g, j, none⟩ = xs[j]?) :
    w.ownsRow 0 e 1 (.slice (some ⟨g, 0, none⟩) n cap) n xs := by
  refine ⟨by omega, .inr ⟨g, cap, cur, rfl, Nat.zero_le _, h, hc, hm, by omega, ?_⟩⟩
  apply List.ext_getElem?
  intro j
  rw [List.getElem?_take]
  by_cases hj : j < n * 1
  · rw [if_pos hj, ← hx j (by omega)]
    simp [World.cell?, h]
  · rw [if_neg hj, List.getElem?_eq_none (by omega)]
theorem setCells_blk (g : Nat) (e : TypeId) : ∀ (vs : List Value) (o : Nat) (w : World) (cur : Array Value), w.heap[g]? = some (.cells cur e (0, 0)) → ∃ cur', (w.setCells g o vs).heap[g]? = some (.cells cur' e (0, 0)) ∧ cur'.size = cur.size
  | [], o, w, cur, h => ⟨cur, h, rfl⟩
  | v :: r, o, w, cur, h => by
    rw [World.setCells]
    obtain ⟨c, h1, h2⟩ := setCells_blk g e r (o + 1) (w.setCell ⟨g, o, none⟩ v) (cur.setIfInBounds o v) (heap_setCell_same w g o cur e v h)
    exact ⟨c, h1, by rw [h2, Array.size_setIfInBounds]⟩
theorem setCells_grown (g : Nat) : ∀ (vs : List Value) (o : Nat) (w : World), w.grownBy (w.setCells g o vs) (some g)
  | [], o, w => ⟨rfl, rfl, rfl, Nat.le_refl _, fun _ _ _ => rfl⟩
  | v :: r, o, w => by
    rw [World.setCells]
    have h := setCells_grown g r (o + 1) (w.setCell ⟨g, o, none⟩ v)
    have hs : (w.setCell ⟨g, o, none⟩ v).heap.size = w.heap.size := by simp [World.setCell]
    refine ⟨h.os, h.tape, h.output, by rw [← hs]; exact h.size, fun k hk hn => ?_⟩
    rw [h.block k (by rw [hs]; exact hk) hn]
    exact Below.heap_setCell _ _ _ _ (fun e => hn (by rw [e]))
theorem insert_shift (g cap n i vb : Nat) (xs : List Value) (p : Value) (w : World) (hown : w.ownsRow 0 64 1 (.slice (some ⟨g, 0, none⟩) n cap) n xs) (hi : i < n) (hroom : n + 1 ≤ cap) (hvb : vb ≠ g) (hp : p.oneCell' = true) (hv : w.heap[vb]? = some (.cells #[p] 64 (0, 0))) (h1c : ∀ v ∈ xs, v.oneCell' = true) (hn : n ≤ 1000) :
    Calls Try.prog 56 #[.slice (some ⟨g, 0, none⟩) n cap, .int .i64 i, .slice (some ⟨vb, 0, none⟩) 1 1] w fun e w' => e = .returned (.slice (some ⟨g, 0, none⟩) (n + 1) cap) ∧ w' = (w.drew.setCells g ((i + 1)) (xs.drop i)).setCells g i [p] := by
  obtain ⟨hcl0, hown2⟩ := hown
  rcases hown2 with ⟨h, _⟩ | ⟨g', cap', cur, hvv, _, hg, hnc, hcm, hcs, htake⟩
  · exact absurd h (by simp)
  simp only [Value.slice.injEq, Option.some.injEq, Addr.mk.injEq, and_true, true_and] at hvv
  obtain ⟨rfl, rfl⟩ := hvv
  have hcl : xs.length = n := by omega
  have hc63 : cap ≤ 9223372036854775807 := hcm
  have hsp : ∀ j, j < n + 1 → (w.cell? ⟨g, j, none⟩).isSome = true := fun j hj => by
    simp only [World.cell?, hg]; simp; omega
  have hfz : ∀ j, j < n + 1 → w.frozen? ⟨g, j, none⟩ = false := fun j _ => blk_frozen hg _
  have hcx : ∀ j v, xs[j]? = some v → w.cell? ⟨g, j, none⟩ = some v := fun j v hj => by
    rw [← htake, List.getElem?_take] at hj
    split at hj
    · simp only [World.cell?, hg]; simpa using hj
    · cases hj
  have hvs : ∀ j v, [p][j]? = some v → w.cell? ⟨vb, j, none⟩ = some v := fun j v hj => by
    cases j with
    | zero => simp at hj; subst hj; exact (blk_cell hv 0).trans rfl
    | succ j => simp at hj
  have h1v : ∀ v ∈ [p], v.oneCell' = true := by simpa using hp
  have hsa : w.shape? vb = some (64, 1) := by simp [World.shape?, hv]
  have hsb : w.shape? g = some (64, cur.size) := by simp [World.shape?, hg]
  have hkB : cur.size ≠ 0 := by omega
  have hfa : w.frozen? ⟨vb, 0, none⟩ = false := blk_frozen hv _
  have hfe : w.frozen? ⟨vb, 1, none⟩ = false := blk_frozen hv _
  have hz2 : ¬ ((i : Int) = (n : Int)) := by omega
  have hsz : (Try.prog.info? 64).map (·.size) = some 1 := by
    obtain ⟨i0, hi0, h0, h1, h2⟩ := info_parts infoF
    rw [hi0]; simp [h1]
  have hov : ∀ lb cb, (callFunc 68 #[.slice (some ⟨vb, 0, none⟩) 1 1, .slice (some ⟨g, (i + 1), none⟩) lb cb]).run Try.prog w = .ok (.value (.bool false)) w := fun lb cb => by
    rw [run_callFunc_extern Try.func68 (by kernel_rfl) (by kernel_rfl) (by kernel_rfl) (e := Extern.SlicesOverlaps.overlaps #[55, 55] #[4]) (by kernel_rfl),
      Lib.run_overlaps_apart w 55 4 64 Try.underlying55 1 (fun w => by kernel_rfl) ⟨vb, 0, none⟩ ⟨g, (i + 1), none⟩ 1 1 lb cb hvb _ _ 1 cur.size hsa hsb hkB hfa hfe]
    rfl
  have hdl : (xs.drop i).length = n - i := by rw [List.length_drop, hcl]
  have hw1 : IntKind.i64.wrap ((i : Int) + 1) = (i : Int) + 1 := by rw [IntKind.wrap_i64]; omega
  have hb1 : (0 : Int) ≤ (i : Int) + 1 := by omega
  have hin : i ≤ n := by omega
  have htn : ((i : Int) + 1).toNat = i + 1 := by omega
  have hb2 : ¬ (cap = i + 1) := by omega
  have hb3 : (i : Int) ≤ (n : Int) + 1 := by omega
  have hb4 : ¬ (cap = i) := by omega
  have hcp1 : ∀ ty dc sc, (Builtin.copy_ #[55, 55] ty #[.slice (some ⟨g, (i + 1), none⟩) (n - i) dc, .slice (some ⟨g, i, none⟩) (n + 1 - i) sc]).run Try.prog w.drew = .ok (goInt (xs.drop i).length) (w.drew.setCells g ((i + 1)) (xs.drop i)) := fun ty dc sc =>
    run_copy_cells w.drew _ _ ty 64 g ((i + 1)) (n - i) dc ⟨g, i, none⟩ (n + 1 - i) sc (xs.drop i) Try.underlying55 hsz (by rw [hdl]; simp only [Nat.min_def]; split <;> omega)
      (fun j v hj => by rw [Addr.add_lit]; exact hcx (i + j) v (by rwa [List.getElem?_drop] at hj))
      (fun j hj => by exact hsp _ (by omega)) (fun j hj => by exact hfz _ (by omega)) (fun v hv => h1c v (List.mem_of_mem_drop hv))
  obtain ⟨W1, hW1⟩ : ∃ W1, W1 = w.drew.setCells g ((i + 1)) (xs.drop i) := ⟨_, rfl⟩
  have hsp1 : ∀ k, k < n + 1 → (W1.cell? ⟨g, k, none⟩).isSome = true := fun k hk => by
    rw [hW1]
    exact Proofs.isSome_setCells g _ _ _ (fun j hj => by exact hsp _ (by omega)) _ (hsp k hk)
  have hcp2 : ∀ (W : World), (∀ x, W.cell? x = W1.cell? x) → (∀ x, W.frozen? x = W1.frozen? x) → ∀ ty dc, (Builtin.copy_ #[55, 55] ty #[.slice (some ⟨g, i, none⟩) (n + 1 - i) dc, .slice (some ⟨vb, 0, none⟩) 1 1]).run Try.prog W = .ok (goInt [p].length) (W.setCells g i [p]) := fun W hWc hWf ty dc =>
    run_copy_cells W _ _ ty 64 g i (n + 1 - i) dc ⟨vb, 0, none⟩ 1 1 [p] Try.underlying55 hsz (by simp only [List.length_cons, List.length_nil, Nat.min_def]; split <;> omega)
      (fun j v hj => by
        rw [Addr.add_lit, hWc, hW1, World.cell?_setCells_out g _ _ _ _ (fun h _ => absurd h hvb)]
        show w.cell? ⟨vb, 0 + j, none⟩ = _
        rw [Nat.zero_add]
        exact hvs j v hj)
      (fun j hj => by rw [hWc]; exact hsp1 _ (by simp at hj; omega)) (fun j hj => by rw [hWf, hW1, World.frozen?_setCells]; exact hfz _ (by simp at hj; omega)) h1v
  rw [← hW1] at hcp1
  clear hg hcs htake hcl0 hsp hfz hcx hvs hsa hsb hkB hfa hfe hsz hdl hsp1 hv hcm h1c h1v hnc
  go_enter Try.func56, Try.ntmps56
  go_wp2_with (simp only [hov])
  go_region_law (refine Proofs.step_copy_runI rfl _ _ 55 55 rfl _ _ (by simp [Act.eval, Act.put]) (by simp [Act.eval, Act.put]) (hcp1 _ _ _) ?_)
  go_wp2_with (at_builtin; refine Proofs.wpList_copy_runI _ rfl _ _ 55 55 rfl _ _ rfl rfl (hcp2 _ (fun _ => rfl) (fun _ => rfl) _ _) ?_)
  go_ret
  first | exact ⟨rfl, rfl⟩ | exact ⟨rfl, by rw [hW1]⟩
theorem insert_grow (g cap n i vb : Nat) (xs : List Value) (p : Value) (w : World) (hown : w.ownsRow 0 64 1 (.slice (some ⟨g, 0, none⟩) n cap) n xs) (hi : i < n) (hroom : cap < n + 1) (hp : p.oneCell' = true) (hv : w.heap[vb]? = some (.cells #[p] 64 (0, 0))) (h1c : ∀ v ∈ xs, v.oneCell' = true) (hn : n ≤ 1000) :
    Calls Try.prog 56 #[.slice (some ⟨g, 0, none⟩) n cap, .int .i64 i, .slice (some ⟨vb, 0, none⟩) 1 1] w fun e w' =>
      e = .returned (.slice (some ⟨w.heap.size, 0, none⟩) (n + 1) (grownCap w (n + 1) cap 64)) ∧
      w' = (((w.alloc (.cells ((xs.take i).toArray ++ Builtin.zeroCells (Value.pointer none).cells (n + 1 - i) ++ Builtin.zeroCells (Value.pointer none).cells (grownCap w (n + 1) cap 64 - (n + 1))) 64)).drew.setCells w.heap.size i [p]).drew).setCells w.heap.size (i + 1) (xs.drop i) := by
  obtain ⟨hcl0, hown2⟩ := hown
  rcases hown2 with ⟨h, _⟩ | ⟨g', cap', cur, hvv, _, hg, hnc, hcm, hcs, htake⟩
  · exact absurd h (by simp)
  simp only [Value.slice.injEq, Option.some.injEq, Addr.mk.injEq, and_true, true_and] at hvv
  obtain ⟨rfl, rfl⟩ := hvv
  have hcl : xs.length = n := by omega
  have hcx : ∀ j v, xs[j]? = some v → w.cell? ⟨g, j, none⟩ = some v := fun j v hj => by
    rw [← htake, List.getElem?_take] at hj
    split at hj
    · simp only [World.cell?, hg]; simpa using hj
    · cases hj
  have hvs : ∀ j v, [p][j]? = some v → w.cell? ⟨vb, j, none⟩ = some v := fun j v hj => by
    cases j with
    | zero => simp at hj; subst hj; exact (blk_cell hv 0).trans rfl
    | succ j => simp at hj
  have h1v : ∀ v ∈ [p], v.oneCell' = true := by simpa using hp
  obtain ⟨i0, hi0, hz0, hzs, hzb⟩ := info_parts infoF
  have hz2 : ¬ ((i : Int) = (n : Int)) := by omega
  have hz3 : (cap : Int) < (n : Int) + 1 := by omega
  have hsz : (Try.prog.info? 64).map (·.size) = some 1 := by rw [hi0]; simp [hzs]
  have hbw : g < w.heap.size := (Array.getElem?_eq_some_iff.1 hg).1
  have hvw : vb < w.heap.size := (Array.getElem?_eq_some_iff.1 hv).1
  have hkk : (n : Int) + 1 - (i : Int) = ((n + 1 - i : Nat) : Int) := by omega
  have hik : i + (n + 1 - i) = n + 1 := by omega
  have hold : (Builtin.firstCells i0.size i (.slice (some ⟨g, 0, none⟩) i cap)).run Try.prog w.drew = .ok (xs.take i).toArray w.drew := by
    rw [hzs]
    exact run_firstCells_some w.drew 1 i ⟨g, 0, none⟩ i cap (xs.take i) (by rw [List.length_take]; omega) (fun j v hj => by
      rw [Addr.add_lit]
      rw [List.getElem?_take] at hj
      split at hj
      · show w.cell? ⟨g, 0 + j, none⟩ = _
        rw [Nat.zero_add]; exact hcx j v hj
      · cases hj)
  have hrz : ∀ ty, (Builtin.append_ #[55, 3] ty #[.slice (some ⟨g, 0, none⟩) i cap, .int .i64 ((n : Int) + 1 - (i : Int))]).run Try.prog w =
      .ok (.slice (some ⟨w.heap.size, 0, none⟩) (n + 1) (grownCap w (n + 1) cap 64)) (w.drew.alloc (.cells ((xs.take i).toArray ++ Builtin.zeroCells (Value.pointer none).cells (n + 1 - i) ++ Builtin.zeroCells (Value.pointer none).cells (grownCap w (n + 1) cap 64 - (n + 1))) 64)) := fun ty => by
    have h := Lib.run_append_grow_zeros w 55 3 ty 64 i0 _ .i64 .i64 Try.underlying55 Try.underlying3 hi0 hz0 (some ⟨g, 0, none⟩) i cap (xs.take i) hold (n + 1 - i) (by omega) (by omega) (by omega) (by omega) (by rw [hzb]; omega) (by rw [hzb, hik]; exact growslice_fits hroom (by omega))
    rw [hik] at h
    rw [hkk]
    exact h
  obtain ⟨G, hG⟩ : ∃ G, G = grownCap w (n + 1) cap 64 := ⟨_, rfl⟩
  obtain ⟨ROW, hROW⟩ : ∃ ROW : Array Value, ROW = (xs.take i).toArray ++ Builtin.zeroCells (Value.pointer none).cells (n + 1 - i) ++ Builtin.zeroCells (Value.pointer none).cells (G - (n + 1)) := ⟨_, rfl⟩
  rw [← hG] at hrz ⊢
  rw [← hROW] at hrz ⊢
  have hRl : n + 1 ≤ ROW.size := by
    rw [hROW]
    simp [Builtin.zeroCells, Value.cells]
    omega
  obtain ⟨W1, hW1⟩ : ∃ W1, W1 = w.drew.alloc (.cells ROW 64) := ⟨_, rfl⟩
  rw [← hW1] at hrz
  have hN : ∀ j, j < n + 1 → (W1.cell? ⟨w.heap.size, j, none⟩).isSome = true := fun j hj => by
    rw [hW1, World.cell?_alloc_at (w := w.drew) ROW _ w.heap.size j rfl, Array.getElem?_eq_getElem (by omega)]; rfl
  have hNf : ∀ j, W1.frozen? ⟨w.heap.size, j, none⟩ = false := fun j => by rw [hW1]; exact World.frozen?_alloc_at (w := w.drew) ROW _ w.heap.size j rfl
  have hOb : ∀ j v, w.cell? ⟨g, j, none⟩ = some v → W1.cell? ⟨g, j, none⟩ = some v := fun j v h => by rw [hW1, World.cell?_alloc_past (w := w.drew) _ g j hbw]; exact h
  have hOv : ∀ j v, w.cell? ⟨vb, j, none⟩ = some v → W1.cell? ⟨vb, j, none⟩ = some v := fun j v h => by rw [hW1, World.cell?_alloc_past (w := w.drew) _ vb j hvw]; exact h
  have hcpA : ∀ (W : World), (∀ x, W.cell? x = W1.cell? x) → (∀ x, W.frozen? x = W1.frozen? x) → ∀ ty dc, (Builtin.copy_ #[55, 55] ty #[.slice (some ⟨w.heap.size, i, none⟩) (n + 1 - i) dc, .slice (some ⟨vb, 0, none⟩) 1 1]).run Try.prog W = .ok (goInt [p].length) (W.setCells w.heap.size i [p]) := fun W hWc hWf ty dc =>
    run_copy_cells W _ _ ty 64 w.heap.size i (n + 1 - i) dc ⟨vb, 0, none⟩ 1 1 [p] Try.underlying55 hsz (by simp only [List.length_cons, List.length_nil, Nat.min_def]; split <;> omega)
      (fun j v hj => by
        rw [Addr.add_lit, hWc]
        exact hOv _ v (by rw [Nat.zero_add]; exact hvs j v hj))
      (fun j hj => by rw [hWc]; exact hN _ (by simp at hj; omega)) (fun j hj => by rw [hWf]; exact hNf _) h1v
  have hGn : n + 1 ≤ G := by rw [hG]; exact grownCap_ge w _ _ _
  have hG63 : G ≤ 9223372036854775807 := by
    have := grownCap_le_maxLen w (n + 1) cap 64 (by unfold maxLen; omega)
    rw [← hG] at this
    unfold maxLen at this
    omega
  have hGi : ¬ (G = i) := by omega
  have hGim : ¬ (G = i + 1) := by omega
  have hci : ¬ (cap = i) := by omega
  have hbN : g ≠ w.heap.size := by omega
  have hdl : (xs.drop i).length = n - i := by rw [List.length_drop, hcl]
  have hcpB : ∀ (W : World), (∀ x, W.cell? x = (W1.setCells w.heap.size i [p]).cell? x) → (∀ x, W.frozen? x = (W1.setCells w.heap.size i [p]).frozen? x) → ∀ ty dc sc, (Builtin.copy_ #[55, 55] ty #[.slice (some ⟨w.heap.size, i + 1, none⟩) (n - i) dc, .slice (some ⟨g, i, none⟩) (n - i) sc]).run Try.prog W = .ok (goInt (xs.drop i).length) (W.setCells w.heap.size (i + 1) (xs.drop i)) := fun W hWc hWf ty dc sc =>
    run_copy_cells W _ _ ty 64 w.heap.size (i + 1) (n - i) dc ⟨g, i, none⟩ (n - i) sc (xs.drop i) Try.underlying55 hsz (by rw [hdl]; simp only [Nat.min_def]; split <;> omega)
      (fun j v hj => by
        rw [Addr.add_lit, hWc, World.cell?_setCells_out _ _ _ _ _ (fun h _ => absurd h hbN)]
        exact hOb _ v (hcx (i + j) v (by rwa [List.getElem?_drop] at hj)))
      (fun j hj => by rw [hWc]; exact Proofs.isSome_setCells _ _ _ _ (fun t ht => hN _ (by simp at ht; omega)) _ (hN _ (by omega)))
      (fun j hj => by rw [hWf, World.frozen?_setCells]; exact hNf _) (fun v hv => h1c v (List.mem_of_mem_drop hv))
  subst hW1
  have hE1 : ∀ x, ((w.alloc (.cells ROW 64)).drew).cell? x = (w.drew.alloc (.cells ROW 64)).cell? x := fun x => rfl
  have hE2 : ∀ x, ((w.alloc (.cells ROW 64)).drew).frozen? x = (w.drew.alloc (.cells ROW 64)).frozen? x := fun x => rfl
  have hF1 : ∀ x, (((w.alloc (.cells ROW 64)).drew.setCells w.heap.size i [p]).drew).cell? x = ((w.drew.alloc (.cells ROW 64)).setCells w.heap.size i [p]).cell? x := fun x => rfl
  have hF2 : ∀ x, (((w.alloc (.cells ROW 64)).drew.setCells w.heap.size i [p]).drew).frozen? x = ((w.drew.alloc (.cells ROW 64)).setCells w.heap.size i [p]).frozen? x := fun x => rfl
  have hw1 : IntKind.i64.wrap ((i : Int) + 1) = (i : Int) + 1 := by rw [IntKind.wrap_i64]; omega
  have hb1 : (0 : Int) ≤ (i : Int) + 1 := by omega
  have hin : i ≤ n := by omega
  have htn : ((i : Int) + 1).toNat = i + 1 := by omega
  have hb3 : (i : Int) ≤ (n : Int) := by omega
  have hic : (i : Int) ≤ (cap : Int) := by omega
  clear hkk hik hold hROW hG hRl hg hcs htake hcl0 hcx hvs hsz hv hcm h1c h1v hnc hN hNf hOb hOv hi0 hz0 hzs hzb
  go_enter Try.func56, Try.ntmps56
  go_wp2_with (first
    | (at_builtin; refine Lib.wpList_append_run _ rfl _ _ _ _ rfl _ _ rfl rfl _ _ (hrz _) ?_)
    | (at_builtin; refine Proofs.wpList_copy_runI _ rfl _ _ 55 55 rfl _ _ rfl rfl (hcpA _ hE1 hE2 _ _) ?_)
    | (at_builtin; refine Proofs.wpList_copy_runI _ rfl _ _ 55 55 rfl _ _ rfl rfl (hcpB _ (fun _ => rfl) (fun _ => rfl) _ _ _) ?_))
  go_region_law (refine Proofs.step_copy_runI rfl _ _ 55 55 rfl (.slice (some ⟨w.heap.size, i + 1, none⟩) (n - i) (G - (i + 1))) (.slice (some ⟨g, i, none⟩) (n - i) (cap - i)) (by simp [Act.eval, Act.put]) (by simp [Act.eval, Act.put]) (hcpB _ hF1 hF2 3 (G - (i + 1)) (cap - i)) ?_)
  go_wp2
  go_ret
  exact ⟨rfl, rfl⟩
theorem ins_at {xs : List Value} {p : Value} {i n : Nat} (hn : xs.length = n) (hi : i ≤ n) (j : Nat) : (xs.take i ++ p :: xs.drop i)[j]? = if j < i then xs[j]? else if j = i then some p else xs[j - 1]? := by
  have hl : (xs.take i).length = i := by rw [List.length_take]; omega
  by_cases h1 : j < i
  · rw [if_pos h1, List.getElem?_append_left (by omega), List.getElem?_take, if_pos h1]
  · rw [if_neg h1, List.getElem?_append_right (by omega), hl]
    by_cases h2 : j = i
    · rw [if_pos h2, h2, Nat.sub_self]; rfl
    · rw [if_neg h2, show j - i = (j - i - 1) + 1 by omega, List.getElem?_cons_succ, List.getElem?_drop]
      congr 1; omega
/-- two writes into a row: what stands behind the place, and the new one -/
theorem two_writes {w w1 : World} {g n i : Nat} {xs : List Value} {p : Value} (hl : xs.length = n) (hi : i ≤ n) (hs : ∀ j, j < n + 1 → (w.cell? ⟨g, j, none⟩).isSome = true) (hx : ∀ j, j < i → w.cell? ⟨g, j, none⟩ = xs[j]?)
    (hw : w1 = (w.setCells g (i + 1) (xs.drop i)).setCells g i [p] ∨ w1 = ((w.setCells g i [p]).drew).setCells g (i + 1) (xs.drop i)) : ∀ j, j < n + 1 → w1.cell? ⟨g, j, none⟩ = (xs.take i ++ p :: xs.drop i)[j]? := by
  intro j hj
  rw [ins_at hl hi j]
  have hdl : (xs.drop i).length = n - i := by rw [List.length_drop, hl]
  have hd : ∀ (W : World), (∀ j, j < n + 1 → (W.cell? ⟨g, j, none⟩).isSome = true) → i < j → (W.setCells g (i + 1) (xs.drop i)).cell? ⟨g, j, none⟩ = xs[j - 1]? := fun W hW h => by
    have h1 := World.cell?_setCells_in g (xs.drop i) (i + 1) W (fun q hq => hW _ (by omega)) (j - (i + 1)) (by omega)
    rw [show i + 1 + (j - (i + 1)) = j by omega] at h1
    rw [h1, List.getElem_drop, ← List.getElem?_eq_getElem]
    congr 1; omega
  have hdo : ∀ (W : World), j ≤ i → (W.setCells g (i + 1) (xs.drop i)).cell? ⟨g, j, none⟩ = W.cell? ⟨g, j, none⟩ := fun W h =>
    World.cell?_setCells_out g _ _ _ _ (fun _ _ => by show j < i + 1 ∨ _; omega)
  have hpo : ∀ (W : World), j ≠ i → (W.setCells g i [p]).cell? ⟨g, j, none⟩ = W.cell? ⟨g, j, none⟩ := fun W h =>
    World.cell?_setCells_out g _ _ _ _ (fun _ _ => by show j < i ∨ i + 1 ≤ j; omega)
  have hpi : ∀ (W : World), (W.cell? ⟨g, i, none⟩).isSome = true → (W.setCells g i [p]).cell? ⟨g, i, none⟩ = some p := fun W h => by
    have := World.cell?_setCells_in g [p] i W (fun q hq => by
      have : q = 0 := by simp at hq; omega
      subst this; exact h) 0 (by simp)
    simpa using this
  rcases hw with rfl | rfl
  · by_cases h1 : j < i
    · rw [if_pos h1, hpo _ (by omega), hdo _ (by omega), hx j h1]
    · rw [if_neg h1]
      by_cases h2 : j = i
      · subst h2
        rw [if_pos rfl, hpi _ (by rw [hdo _ (Nat.le_refl _)]; exact hs _ hj)]
      · rw [if_neg h2, hpo _ h2, hd w hs (by omega)]
  · by_cases h1 : j < i
    · rw [if_pos h1, hdo _ (by omega)]
      show (w.setCells g i [p]).cell? _ = _
      rw [hpo _ (by omega), hx j h1]
    · rw [if_neg h1]
      by_cases h2 : j = i
      · subst h2
        rw [if_pos rfl, hdo _ (Nat.le_refl _)]
        exact hpi _ (hs _ hj)
      · rw [if_neg h2]
        refine hd _ (fun q hq => ?_) (by omega)
        show ((w.setCells g i [p]).cell? _).isSome = true
        exact Proofs.isSome_setCells g _ _ _ (fun t ht => hs _ (by simp at ht; omega)) _ (hs q hq)
theorem grown_trans {a b c : World} {r : Option Nat} (h : a.grownBy b r) (k : b.grownBy c r) : a.grownBy c r :=
  ⟨k.os.trans h.os, k.tape.trans h.tape, k.output.trans h.output, Nat.le_trans h.size k.size, fun q hq hn => (k.block q (Nat.lt_of_lt_of_le hq h.size) hn).trans (h.block q hq hn)⟩
theorem insert_any (v : Value) (n i vb : Nat) (xs : List Value) (p : Value) (w : World) (hown : w.ownsRow 0 64 1 v n xs) (hi : i ≤ n) (hvb : ∀ g, v.ownBlock = some g → vb ≠ g) (hp : p.oneCell' = true) (hv : w.heap[vb]? = some (.cells #[p] 64 (0, 0))) (h1c : ∀ v ∈ xs, v.oneCell' = true) (hn : n ≤ 1000) :
    Calls Try.prog 56 #[v, .int .i64 i, .slice (some ⟨vb, 0, none⟩) 1 1] w fun e w' => ∃ v', e = .returned v' ∧ w'.ownsRow 0 64 1 v' (n + 1) (xs.take i ++ p :: xs.drop i) ∧ w.grownBy w' v.ownBlock ∧ (v'.ownBlock = v.ownBlock ∨ v'.ownBlock = some w.heap.size) := by
  have hl : xs.length = n := by have := hown.1; omega
  rcases Nat.lt_or_ge i n with hlt | hge
  · rcases row_cases hown with ⟨rfl, h0⟩ | ⟨g, cap, rfl, hcap, hm, hx⟩
    · omega
    · have hb : ∃ cur, w.heap[g]? = some (.cells cur 64 (0, 0)) ∧ cur.size = cap := by
        rcases hown.2 with ⟨h, _⟩ | ⟨g', cap', cur, hvv, _, hg, _, _, hcs, _⟩
        · exact absurd h (by simp)
        · simp only [Value.slice.injEq, Option.some.injEq, Addr.mk.injEq, and_true, true_and] at hvv
          obtain ⟨rfl, rfl⟩ := hvv
          exact ⟨cur, hg, by omega⟩
      obtain ⟨cur, hg, hcs⟩ := hb
      by_cases hroom : n + 1 ≤ cap
      · refine (insert_shift g cap n i vb xs p w hown hlt hroom (hvb g rfl) hp hv h1c hn).mono ?_
        rintro e w' ⟨rfl, hw'⟩
        obtain ⟨c1, hc1, hs1⟩ := setCells_blk g 64 (xs.drop i) (i + 1) w.drew cur hg
        obtain ⟨c2, hc2, hs2⟩ := setCells_blk g 64 [p] i _ c1 hc1
        refine ⟨_, rfl, row_of_cells (cur := c2) (by rw [hw']; exact hc2) (by simp; omega) hroom hm (by omega) ?_, ?_, .inl rfl⟩
        · refine two_writes (w := w.drew) hl hi (fun j hj => ?_) (fun j hj => hx j (by omega)) (.inl hw')
          show (w.cell? ⟨g, j, none⟩).isSome = true
          simp only [World.cell?, hg]; simp; omega
        · rw [hw']
          have q1 := setCells_grown g (xs.drop i) (i + 1) w.drew
          exact grown_trans (b := w.drew.setCells g (i + 1) (xs.drop i)) ⟨q1.os, q1.tape, q1.output, q1.size, q1.block⟩ (setCells_grown g _ _ _)
      · have hgc := grownCap_ge w (n + 1) cap 64
        have hgm := grownCap_le_maxLen w (n + 1) cap 64 (by unfold maxLen; omega)
        refine (insert_grow g cap n i vb xs p w hown hlt (by omega) hp hv h1c hn).mono ?_
        rintro e w' ⟨rfl, hw'⟩
        obtain ⟨ROW, hROW⟩ : ∃ ROW : Array Value, ROW = (xs.take i).toArray ++ Builtin.zeroCells (Value.pointer none).cells (n + 1 - i) ++ Builtin.zeroCells (Value.pointer none).cells (grownCap w (n + 1) cap 64 - (n + 1)) := ⟨_, rfl⟩
        rw [← hROW] at hw'
        have hRs : ROW.size = grownCap w (n + 1) cap 64 := by
          rw [hROW]; simp [Builtin.zeroCells, Value.cells]; omega
        have hRx : ∀ j, j < i → ROW[j]? = xs[j]? := fun j hj => by
          rw [hROW, Array.append_assoc, Array.getElem?_append_left (by simp; omega)]
          rw [List.getElem?_toArray, List.getElem?_take, if_pos hj]
        generalize grownCap w (n + 1) cap 64 = G at *
        have h0 : (w.alloc (.cells ROW 64)).drew.heap[w.heap.size]? = some (.cells ROW 64 (0, 0)) := heap_alloc_new w _
        obtain ⟨c1, hc1, hs1⟩ := setCells_blk w.heap.size 64 [p] i _ ROW h0
        obtain ⟨c2, hc2, hs2⟩ := setCells_blk w.heap.size 64 (xs.drop i) (i + 1) (((w.alloc (.cells ROW 64)).drew.setCells w.heap.size i [p]).drew) c1 hc1
        refine ⟨_, rfl, row_of_cells (cur := c2) (by rw [hw']; exact hc2) (by simp; omega) hgc hgm (by omega) ?_, ?_, .inr rfl⟩
        · refine two_writes (w := (w.alloc (.cells ROW 64)).drew) hl hi (fun j hj => ?_) (fun j hj => ?_) (.inr hw')
          · simp only [World.cell?, h0]; simp; omega
          · simp only [World.cell?, h0]; simpa using hRx j hj
        · rw [hw']
          have a1 := setCells_grown w.heap.size [p] i ((w.alloc (.cells ROW 64)).drew)
          have a2 := setCells_grown w.heap.size (xs.drop i) (i + 1) (((w.alloc (.cells ROW 64)).drew.setCells w.heap.size i [p]).drew)
          have a0 : w.grownBy (w.alloc (.cells ROW 64)).drew none := ⟨rfl, rfl, rfl, by simp, fun k hk _ => Below.heap_alloc w (.cells ROW 64) k hk⟩
          refine ⟨a2.os.trans a1.os, a2.tape.trans a1.tape, a2.output.trans a1.output, Nat.le_trans a0.size (Nat.le_trans a1.size a2.size), fun k hk _ => ?_⟩
          have hne : some k ≠ some w.heap.size := fun e => by injection e; omega
          exact (a2.block k (Nat.lt_of_lt_of_le hk (Nat.le_trans a0.size a1.size)) hne).trans ((a1.block k (Nat.lt_of_lt_of_le hk a0.size) hne).trans (a0.block k hk (by simp)))
  · obtain rfl : i = n := by omega
    refine (insert_end v i xs w hown vb p hp ((blk_cell hv 0).trans rfl) hn).mono ?_
    rintro e w' ⟨v', rfl, h1, h2, h3⟩
    refine ⟨v', rfl, ?_, h2, h3⟩
    rw [List.take_of_length_le (by omega), List.drop_of_length_le (by omega)]
    exact h1
def newF (n g : Nat) (a b c : Bool) : Array Value := #[.int .i64 n, .pointer (some ⟨g, 0, none⟩), .int .i64 0, .int .i64 0, .bool false, .bool a, .bool b, .bool false, .bool false, .bool c]
theorem Bxs.put1 {w wx : World} {g : Nat} {cs cs' : Array Value} {t : TypeId} (h : Bxs w wx [(g, cs, t)]) (hg : w.heap.size ≤ g) (i : Nat) (u : Value) (e : cs.setIfInBounds i u = cs') : Bxs w (wx.setCell ⟨g, i, none⟩ u) [(g, cs', t)] := by
  refine ⟨fun p hp => ?_, below_set h.b hg⟩
  obtain rfl := List.mem_singleton.1 hp
  exact blk_put h.get i u e
theorem add_pre {κ : Nat → Tag} {L : Lay} {w W3 w4 : World} {m : MW} {o : Obj} (h : WAt κ L w m) (hX : Below w.heap.size w W3) (hgr : (W3.alloc o).grownBy w4 L.vf.ownBlock) :
    w4.heap[L.p]? = some (.cells #[L.vb, L.vf] 57 (0, 0)) ∧ L.p < w.heap.size := by
  have hp : L.p < w.heap.size := h.lt (k := L.p) (by rw [h.tp]; exact Tag.noConfusion)
  have hp3 : L.p < W3.heap.size := Nat.lt_of_lt_of_le hp hX.size
  refine ⟨?_, hp⟩
  rw [hgr.block L.p (by simp; omega) (fun e => by have := h.tf L.p e.symm; rw [h.tp] at this; exact Tag.noConfusion this), Below.heap_alloc _ _ _ hp3, hX.block L.p hp]
  exact h.hp
theorem add_end {κ : Nat → Tag} {L : Lay} {w W3 w4 : World} {m : MW} {b : MBk} {v' : Value} {o : Obj} (h : WAt κ L w m) (hb : b ∈ m.books) (hl : m.files.length < 20) (hX : Bxs w W3 [(w.heap.size, newF m.addN (L.bk b.id) true true true, 68)])
    (hown : w4.ownsRow 0 64 1 v' (m.files.length + 1) ((m.files.map fun f => pt (L.fl f.num)).take (m.addN - 1) ++ pt w.heap.size :: (m.files.map fun f => pt (L.fl f.num)).drop (m.addN - 1)))
    (hgr : (W3.alloc o).grownBy w4 L.vf.ownBlock) (ho : v'.ownBlock = L.vf.ownBlock ∨ v'.ownBlock = some (W3.alloc o).heap.size) :
    St κ w (κF κ w.heap.size m.addN v') (L.addF w.heap.size m.addN v') (w4.setCell ⟨L.p, 1, none⟩ v') (m.addF b.id) := by
  obtain ⟨hP, hp⟩ := add_pre h hX.b hgr
  have hs3 : w.heap.size < W3.heap.size := (Array.getElem?_eq_some_iff.1 hX.get).1
  have hsa : (W3.alloc o).heap.size = W3.heap.size + 1 := by simp
  have hs4 : W3.heap.size + 1 ≤ w4.heap.size := by rw [← hsa]; exact hgr.size
  have hset : (w4.setCell ⟨L.p, 1, none⟩ v').heap.size = w4.heap.size := by simp [World.setCell]
  have hnew : L.vf.ownBlock ≠ some w.heap.size := fun e => by
    have := h.lt (k := w.heap.size) (by rw [h.tf _ e]; exact Tag.noConfusion); omega
  have hpb : ∀ g, v'.ownBlock = some g → g ≠ L.p := fun g hg => by
    rcases ho with ho | ho
    · rintro rfl
      have := h.tf L.p (ho ▸ hg)
      rw [h.tp] at this; exact Tag.noConfusion this
    · rw [ho] at hg; injection hg with hg; omega
  refine WAt.addF h hb hl w.heap.size v' (Nat.le_refl _) ?_ (hgr.os.trans hX.b.os) (hgr.tape.trans hX.b.tape) (hgr.output.trans hX.b.output) (by rw [hset]; omega) ?_ ?_ ?_ ?_
  · rcases ho with ho | ho
    · exact .inl ho
    · exact .inr ⟨_, ho, by omega, by omega⟩
  · rw [Below.heap_setCell _ _ _ _ (by show w.heap.size ≠ L.p; omega), hgr.block w.heap.size (by omega) hnew.symm, Below.heap_alloc _ _ _ hs3]
    exact hX.get
  · exact blk_put hP 1 v' rfl
  · rw [← List.map_take, ← List.map_drop] at hown
    exact ownsRow_of_block hown fun g hg => Below.heap_setCell _ _ _ _ (hpb g hg)
  · intro k hk hkp hkv
    rw [Below.heap_setCell _ _ _ _ (by exact hkp), hgr.block k (by omega) (fun e => hkv e.symm), Below.heap_alloc _ _ _ (by omega)]
    exact hX.b.block k hk
theorem pt_one (l : List MFl) (L : Lay) : ∀ v ∈ (l.map fun f => pt (L.fl f.num)), v.oneCell' = true := fun v hv => by
  obtain ⟨f, _, rfl⟩ := List.mem_map.1 hv
  rfl
theorem add_ins {κ : Nat → Tag} {L : Lay} {w W3 : World} {m : MW} {b : MBk} {s : Nat} (h : WAt κ L w m) (hb : b ∈ m.books) (hl : m.files.length < 20) (hs : w.heap.size = s) (hX : Bxs w W3 [(s, newF m.addN (L.bk b.id) true true true, 68)]) (v : Value) (hv : L.vf = v) :
    Calls Try.prog 56 #[v, .int .i64 ((m.addN : Int) - 1), .slice (some ⟨W3.heap.size, 0, none⟩) 1 1] (W3.alloc (.cells #[.pointer (some ⟨s, 0, none⟩)] 64)) fun e w4 => ∃ g cap, e = .returned (.slice (some ⟨g, 0, none⟩) (m.files.length + 1) cap) ∧
      (w4.cell? ⟨L.p, 1, none⟩ = some L.vf ∧ w4.frozen? ⟨L.p, 1, none⟩ = false) ∧
      St κ w (κF κ s m.addN (.slice (some ⟨g, 0, none⟩) (m.files.length + 1) cap)) (L.addF s m.addN (.slice (some ⟨g, 0, none⟩) (m.files.length + 1) cap)) (w4.setCell ⟨L.p, 1, none⟩ (.slice (some ⟨g, 0, none⟩) (m.files.length + 1) cap)) (m.addF b.id) := by
  subst hs
  subst hv
  obtain ⟨l1, l2, e1, e2, e3, e4, e5⟩ := add_split h.ok b.id
  have hle : m.addN - 1 ≤ m.files.length := by rw [e1, List.length_append]; omega
  rw [show (m.addN : Int) - 1 = ((m.addN - 1 : Nat) : Int) by omega]
  have hlt : ∀ g, L.vf.ownBlock = some g → g < w.heap.size := fun g hg => (h.rf.lt g hg).2
  have hown3 : (W3.alloc (.cells #[.pointer (some ⟨w.heap.size, 0, none⟩)] 64)).ownsRow 0 64 1 L.vf m.files.length (m.files.map fun f => pt (L.fl f.num)) :=
    ownsRow_of_block h.rf fun g hg => (Below.heap_alloc _ _ _ (Nat.lt_of_lt_of_le (hlt g hg) hX.b.size)).trans (hX.b.block g (hlt g hg))
  refine (insert_any L.vf m.files.length (m.addN - 1) W3.heap.size _ (pt w.heap.size) _ hown3 hle (fun g hg => by have := hlt g hg; have := hX.b.size; omega) rfl (blk_new _ _) (pt_one _ _) (by omega)).mono ?_
  rintro e w4 ⟨v', rfl, hown, hgr, ho⟩
  rcases row_cases hown with ⟨rfl, h0⟩ | ⟨g, cap, rfl, _, _, _⟩
  · omega
  have hpre := add_pre h hX.b hgr
  exact ⟨g, cap, rfl, ⟨(blk_cell hpre.1 1).trans rfl, blk_frozen hpre.1 1⟩, add_end h hb hl hX hown hgr ho⟩
theorem add_walk {κ : Nat → Tag} {L : Lay} {m : MW} (w : World) (h : WAt κ L w m) {b : MBk} (hb : b ∈ m.books) (hl : m.files.length < 20) :
    Calls Try.prog 27 #[pt L.p, pt (L.bk b.id)] w fun e w' => ∃ κ' L', L'.p = L.p ∧ L'.bk = L.bk ∧ L'.tv = L.tv ∧ L'.vb = L.vb ∧ e = .returned (pt (L'.fl m.addN)) ∧ St κ w κ' L' w' (m.addF b.id) := by
  have H := Aside0.mk h
  have HB := Aside0.mk hb
  obtain ⟨⟨z0, z1⟩, f0, f1⟩ := h.head
  have hrow := h.rowF
  have hlen : m.files.length ≤ 20 := h.ok.fs
  have hpp := Aside0.mk (h.lt (k := L.p) (by rw [h.tp]; exact Tag.noConfusion))
  clear h hb
  unfold pt
  generalize hg : L.bk b.id = gb at *
  rcases hrow with ⟨hv, hn⟩ | ⟨g, cap, hv, hc⟩
  · rw [hv] at z1
    have hN : m.addN = 1 := by unfold MW.addN; rw [hn]; rfl
    have hn0 : m.files.length = 0 := by rw [hn]; rfl
    clear hn
    go_enter Try.func27, Try.ntmps27
    go_wp2
    go_loop [5, 14] (fun a i => a = .int .i64 1 ∧ i = .int .i64 0) (fun _ i => 0)
    case atStart => exact ⟨rfl, rfl⟩
    case round =>
      obtain ⟨rfl, rfl⟩ := hrel
      go_wp2
      have HX := (bxs_nil w).push #[.int .i64 1, .pointer (some ⟨gb, 0, none⟩), .int .i64 0, .int .i64 0, .bool false, .bool false, .bool false, .bool false, .bool false, .bool false] 68
      generalize (w.alloc (.cells #[.int .i64 1, .pointer (some ⟨gb, 0, none⟩), .int .i64 0, .int .i64 0, .bool false, .bool false, .bool false, .bool false, .bool false, .bool false] 68)) = W1 at *
      have HX1 := Aside0.mk HX
      have q5 := blk_frozen HX.get 5
      have q6 := blk_frozen HX.get 6
      have q9 := blk_frozen HX.get 9
      have p5 := blk_cell HX.get 5
      have p6 := blk_cell HX.get 6
      have p9 := blk_cell HX.get 9
      clear HX
      generalize hs : w.heap.size = s at *
      go_region
      have HX3 : Aside0 (Bxs w ((((W1.setCell ⟨s, 5, none⟩ (.bool true)).setCell ⟨s, 6, none⟩ (.bool true)).setCell ⟨s, 9, none⟩ (.bool true)).drew) [(s, newF m.addN gb true true true, 68)]) :=
        ⟨by rw [hN]; exact (((HX1.out.put1 (by omega) 5 _ rfl).put1 (by omega) 6 _ rfl).put1 (by omega) 9 _ rfl).drew⟩
      generalize (((W1.setCell ⟨s, 5, none⟩ (.bool true)).setCell ⟨s, 6, none⟩ (.bool true)).setCell ⟨s, 9, none⟩ (.bool true)).drew = W3 at *
      clear q5 q6 q9 p5 p6 p9 HX1 f0 f1 z0
      have z3 : W3.cell? ⟨L.p, 1, none⟩ = some (.slice none 0 0) := (HX3.out.b.cell (p := ⟨L.p, 1, none⟩) (by rw [hs]; exact hpp.out)).trans z1
      clear z1
      go_wp2_with fail
      subst hg
      have hins := add_ins H.out HB.out hl hs HX3.out _ hv
      rw [show (m.addN : Int) - 1 = 0 by omega] at hins
      refine hins.mono ?_
      rintro e w4 ⟨g', cap', rfl, ⟨c4, f4⟩, hst⟩
      have HE := Aside0.mk hst
      rw [hv] at c4
      clear hst z3 HX3 hv
      go_wp2
      go_ret
      exact ⟨κF κ s m.addN (.slice (some ⟨g', 0, none⟩) (m.files.length + 1) cap'), L.addF s m.addN (.slice (some ⟨g', 0, none⟩) (m.files.length + 1) cap'), rfl, rfl, rfl, rfl, by rw [show (L.addF s m.addN (.slice (some ⟨g', 0, none⟩) (m.files.length + 1) cap')).fl m.addN = s from if_pos rfl]; rfl, by have := HE.out; rw [hn0] at this ⊢; exact this⟩
  · have HC := Aside0.mk hc
    clear hc
    rw [hv] at z1
    go_enter Try.func27, Try.ntmps27
    go_wp2
    go_loop [5, 14] (fun a i => ∃ k n : Nat, k ≤ m.files.length ∧ n ≤ k + 1 ∧ i = .int .i64 k ∧ a = .int .i64 n ∧ Aside0 (leastN (m.files.drop k) n = m.addN)) (fun _ i => m.files.length - (intOf i).toNat)
    case atStart => exact ⟨0, 1, Nat.zero_le _, Nat.le_refl _, rfl, rfl, ⟨rfl⟩⟩
    case round =>
      obtain ⟨k, n, hk, hnk, rfl, rfl, HN⟩ := hrel
      by_cases hlt : k < m.files.length
      · have hc1 := HC.out k hlt
        have hf := (H.out.fc (List.getElem_mem hlt)).1.1
        have hd : m.files.drop k = m.files[k] :: m.files.drop (k + 1) := List.drop_eq_getElem_cons hlt
        rw [hd] at HN
        unfold pt at hc1
        clear hd
        generalize m.files[k] = f at *
        unfold leastN at HN
        by_cases he : f.num = n
        · rw [if_pos he] at HN
          rw [he] at hf
          go_wp2
          go_round
          case rel => exact ⟨k + 1, n + 1, by omega, by omega, by go_num, by go_num, HN⟩
          case measure => simp [intOf]; omega
        · rw [if_neg he] at HN
          have he' : ¬ ((f.num : Int) = (n : Int)) := by omega
          go_wp2
          go_round
          case rel => exact ⟨k + 1, n, by omega, by omega, by go_num, rfl, HN⟩
          case measure => simp [intOf]; omega
      · obtain rfl : k = m.files.length := by omega
        have hd : m.files.drop m.files.length = [] := List.drop_length ..
        rw [hd] at HN
        obtain rfl : n = m.addN := HN.out
        clear hd HN
        go_wp2
        have HX := (bxs_nil w).push #[.int .i64 m.addN, .pointer (some ⟨gb, 0, none⟩), .int .i64 0, .int .i64 0, .bool false, .bool false, .bool false, .bool false, .bool false, .bool false] 68
        generalize (w.alloc (.cells #[.int .i64 m.addN, .pointer (some ⟨gb, 0, none⟩), .int .i64 0, .int .i64 0, .bool false, .bool false, .bool false, .bool false, .bool false, .bool false] 68)) = W1 at *
        have HX1 := Aside0.mk HX
        have q5 := blk_frozen HX.get 5
        have q6 := blk_frozen HX.get 6
        have q9 := blk_frozen HX.get 9
        have p5 := blk_cell HX.get 5
        have p6 := blk_cell HX.get 6
        have p9 := blk_cell HX.get 9
        clear HX
        generalize hs : w.heap.size = s at *
        go_region
        have HX3 : Aside0 (Bxs w ((((W1.setCell ⟨s, 5, none⟩ (.bool true)).setCell ⟨s, 6, none⟩ (.bool true)).setCell ⟨s, 9, none⟩ (.bool true)).drew) [(s, newF m.addN gb true true true, 68)]) :=
          ⟨(((HX1.out.put1 (by omega) 5 _ rfl).put1 (by omega) 6 _ rfl).put1 (by omega) 9 _ rfl).drew⟩
        generalize (((W1.setCell ⟨s, 5, none⟩ (.bool true)).setCell ⟨s, 6, none⟩ (.bool true)).setCell ⟨s, 9, none⟩ (.bool true)).drew = W3 at *
        clear q5 q6 q9 p5 p6 p9 HX1 f0 f1 z0
        have z3 : W3.cell? ⟨L.p, 1, none⟩ = some (.slice (some ⟨g, 0, none⟩) m.files.length cap) := (HX3.out.b.cell (p := ⟨L.p, 1, none⟩) (by rw [hs]; exact hpp.out)).trans z1
        clear z1
        go_wp2_with fail
        subst hg
        refine (add_ins H.out HB.out hl hs HX3.out _ hv).mono ?_
        rintro e w4 ⟨g', cap', rfl, ⟨c4, f4⟩, hst⟩
        have HE := Aside0.mk hst
        rw [hv] at c4
        clear hst z3 HX3 hv
        go_wp2
        go_ret
        exact ⟨_, L.addF s m.addN (.slice (some ⟨g', 0, none⟩) (m.files.length + 1) cap'), rfl, rfl, rfl, rfl, by rw [show (L.addF s m.addN (.slice (some ⟨g', 0, none⟩) (m.files.length + 1) cap')).fl m.addN = s from if_pos rfl]; rfl, HE.out⟩
def MW.openB (m : MW) (s : ByteArray) : MW × Int × Int :=
  match m.find s with
  | none => (m, 0, 4)
  | some b => if 20 ≤ m.files.length then (m, 0, 30) else (m.addF b.id, m.addN, 0)
theorem addF_mem {m : MW} (h : m.ok) (id : Nat) : freshF m.addN id ∈ (m.addF id).files := by
  obtain ⟨l1, l2, e1, e2, _⟩ := add_split h id
  rw [e2]
  exact List.mem_append_right _ (List.mem_cons_self ..)
theorem open_walk {κ : Nat → Tag} {L : Lay} {m m' : MW} (s : ByteArray) (w : World) (h : WAt κ L w m) (n e : Int) (hr : m.openB s = (m', n, e)) :
    Calls Try.prog 22 #[pt L.p, .string s] w fun x w' => x = .returned (.tuple #[.int .i64 n, .int .i64 e]) ∧ ∃ κ' L', L'.p = L.p ∧ St κ w κ' L' w' m' := by
  have H := Aside0.mk h
  have HF := Aside0.mk (find_walk s w h _ rfl)
  obtain ⟨⟨z0, z1⟩, _, _⟩ := h.head
  have hfl : ∃ a cap, L.vf = .slice a m.files.length cap := by
    rcases row_cases h.rf with ⟨h1, h2⟩ | ⟨g, cap, h1, _⟩
    · exact ⟨none, 0, by rw [h1, h2]⟩
    · exact ⟨_, cap, h1⟩
  obtain ⟨a, cap, hv⟩ := hfl
  rw [hv] at z1
  have hl20 := h.ok.fs
  unfold MW.openB at hr
  unfold pt at *
  cases hfind : m.find s with
  | none =>
    rw [hfind] at hr
    have HF' : Aside0 (Calls Try.prog 26 #[.pointer (some ⟨L.p, 0, none⟩), .string s] w fun e w' => e = .returned (.pointer none) ∧ w = w') := ⟨by have := HF.out; rw [hfind] at this; exact this⟩
    simp only [Prod.mk.injEq] at hr
    obtain ⟨rfl, rfl, rfl⟩ := hr
    clear h hfind HF
    go_enter Try.func22, Try.ntmps22
    go_wp2_with (go_at_call 26; refine HF'.out.mono ?_; rintro e w' ⟨rfl, rfl⟩)
    go_ret2
    exact ⟨rfl, κ, L, rfl, H.out.st⟩
  | some b =>
    rw [hfind] at hr
    have HF' : Aside0 (Calls Try.prog 26 #[.pointer (some ⟨L.p, 0, none⟩), .string s] w fun e w' => e = .returned (.pointer (some ⟨L.bk b.id, 0, none⟩)) ∧ w = w') := ⟨by have := HF.out; rw [hfind] at this; exact this⟩
    obtain ⟨hb, _⟩ := MW.find_mem hfind
    by_cases hl : 20 ≤ m.files.length
    · simp only [if_pos hl, Prod.mk.injEq] at hr
      obtain ⟨rfl, rfl, rfl⟩ := hr
      clear h hfind HF hb
      go_enter Try.func22, Try.ntmps22
      go_wp2_with (go_at_call 26; refine HF'.out.mono ?_; rintro e w' ⟨rfl, rfl⟩)
      go_ret2
      exact ⟨rfl, κ, L, rfl, H.out.st⟩
    · simp only [if_neg hl, Prod.mk.injEq] at hr
      obtain ⟨rfl, rfl, rfl⟩ := hr
      have HA := Aside0.mk (add_walk w h hb (by omega))
      unfold pt at HA
      have hmem := Aside0.mk (addF_mem h.ok b.id)
      clear h hfind HF hb
      go_enter Try.func22, Try.ntmps22
      go_wp2_with (go_at_call 26; refine HF'.out.mono ?_; rintro e w' ⟨rfl, rfl⟩)
      refine HA.out.mono ?_
      rintro e w' ⟨κ', L', hp, _, _, _, rfl, hst⟩
      have HS := Aside0.mk hst
      have zn : w'.cell? ⟨L'.fl m.addN, 0, none⟩ = some (.int .i64 m.addN) := (hst.1.fc hmem.out).1.1
      clear hst
      go_wp2
      go_ret2
      exact ⟨rfl, κ', L', hp, HS.out⟩
def MW.addB (m : MW) (name : ByteArray) (text : List UInt8) (wr : Bool) : MW := { m with next := m.next + 1, books := m.books ++ [⟨m.next, name, text, wr⟩] }
theorem MW.ok.addB {m : MW} (h : m.ok) (name : ByteArray) (text : List UInt8) (wr : Bool) (hl : m.books.length < 67) (ht : text.length ≤ 1048576) : (m.addB name text wr).ok := by
  have hm : ∀ b, b ∈ (m.addB name text wr).books → b ∈ m.books ∨ b = ⟨m.next, name, text, wr⟩ := fun b hb => by
    rcases List.mem_append.1 hb with hb | hb
    · exact .inl hb
    · exact .inr (List.mem_singleton.1 hb)
  refine ⟨?_, h.fs, ?_, fun b hb => ?_, fun b hb => ?_, h.nums, h.pos, fun f hf => ?_⟩
  · show (m.books ++ [_]).length ≤ 67
    rw [List.length_append]; simp; omega
  · show ((m.books ++ [_]).map MBk.id).Nodup
    rw [List.map_append, List.nodup_append]
    refine ⟨h.ids, by simp, fun a ha c hc => ?_⟩
    obtain ⟨b, hb, rfl⟩ := List.mem_map.1 ha
    have := h.lt b hb
    simp at hc
    omega
  · show b.id < m.next + 1
    rcases hm b hb with hb | rfl
    · have := h.lt b hb; omega
    · exact Nat.lt_succ_self _
  · rcases hm b hb with hb | rfl
    · exact h.tx b hb
    · exact ht
  · obtain ⟨b, hb, e⟩ := h.has f hf
    exact ⟨b, List.mem_append_left _ hb, e⟩
def κB (κ : Nat → Tag) (nb id : Nat) (tv v : Value) : Nat → Tag := fun k => if k = nb then .bk id else if tv.ownBlock = some k then .tx id else if v.ownBlock = some k then .rb else κ k
def Lay.addB (L : Lay) (nb id : Nat) (tv v : Value) : Lay := { L with vb := v, bk := fun k => if k = id then nb else L.bk k, tv := fun k => if k = id then tv else L.tv k }
theorem WAt.addB {κ : Nat → Tag} {L : Lay} {w w' : World} {m : MW} (h : WAt κ L w m) (hl : m.books.length < 67) (name : ByteArray) (text : List UInt8) (wr : Bool) (ht : text.length ≤ 1048576) (nb : Nat) (tv v : Value)
    (hnb : w.heap.size ≤ nb) (htv : ∀ g, tv.ownBlock = some g → w.heap.size ≤ g ∧ g ≠ nb ∧ g < w'.heap.size) (hv : v.ownBlock = L.vb.ownBlock ∨ ∃ g, v.ownBlock = some g ∧ w.heap.size ≤ g ∧ g ≠ nb ∧ tv.ownBlock ≠ some g)
    (h1 : w'.os = w.os) (h2 : w'.tape = w.tape) (h3 : w'.output = w.output) (hsz : w.heap.size ≤ w'.heap.size)
    (hc : w'.heap[nb]? = some (.cells #[.string name, tv, .bool wr] 62 (0, 0)))
    (htx : ∀ κ' : Nat → Tag, (∀ g, tv.ownBlock = some g → κ' g = .tx m.next) → TxAt κ' (.tx m.next) w' tv text)
    (hp : w'.heap[L.p]? = some (.cells #[v, L.vf] 57 (0, 0)))
    (hr : w'.ownsRow 0 59 1 v (m.books.length + 1) ((m.books.map fun b => pt (L.bk b.id)) ++ [pt nb]))
    (ho : ∀ k, k < w.heap.size → k ≠ L.p → L.vb.ownBlock ≠ some k → w'.heap[k]? = w.heap[k]?) :
    St κ w (κB κ nb m.next tv v) (L.addB nb m.next tv v) w' (m.addB name text wr) := by
  have hid : ∀ b ∈ m.books, b.id ≠ m.next := fun b hb => Nat.ne_of_lt (h.ok.lt b hb)
  have hm : ∀ b, b ∈ (m.addB name text wr).books → b ∈ m.books ∨ b = ⟨m.next, name, text, wr⟩ := fun b hb => by
    rcases List.mem_append.1 hb with hb | hb
    · exact .inl hb
    · exact .inr (List.mem_singleton.1 hb)
  have hbk : ∀ b ∈ m.books, (L.addB nb m.next tv v).bk b.id = L.bk b.id := fun b hb => if_neg (hid b hb)
  have htv' : ∀ b ∈ m.books, (L.addB nb m.next tv v).tv b.id = L.tv b.id := fun b hb => if_neg (hid b hb)
  have hbn : (L.addB nb m.next tv v).bk m.next = nb := if_pos rfl
  have htn : (L.addB nb m.next tv v).tv m.next = tv := if_pos rfl
  have hκ : ∀ k, k < w.heap.size → κ k ≠ .rb → κB κ nb m.next tv v k = κ k := fun k hk hn => by
    unfold κB
    rw [if_neg (by omega), if_neg (fun e => by have := (htv k e).1; omega), if_neg]
    intro e
    rcases hv with hv | ⟨g, hg, hgs, _⟩
    · exact hn (h.tb k (hv ▸ e))
    · rw [hg] at e; injection e; omega
  have hκr : ∀ k, v.ownBlock = some k → κB κ nb m.next tv v k = .rb := fun k hk => by
    unfold κB
    rcases hv with hv | ⟨g, hg, hgs, hgn, hgt⟩
    · have := h.lt (k := k) (by rw [h.tb k (hv ▸ hk)]; exact Tag.noConfusion)
      rw [if_neg (by omega), if_neg (fun e => by have := (htv k e).1; omega), if_pos hk]
    · have : g = k := by rw [hg] at hk; injection hk
      subst this
      rw [if_neg hgn, if_neg hgt, if_pos hk]
  have hκt : ∀ g, tv.ownBlock = some g → κB κ nb m.next tv v g = .tx m.next := fun g hg => by
    unfold κB
    rw [if_neg (htv g hg).2.1, if_pos hg]
  have hoth : ∀ k, κ k ≠ .no → κ k ≠ .wd → κ k ≠ .rb → w'.heap[k]? = w.heap[k]? := fun k k1 k2 k3 =>
    ho k (h.lt k1) (fun e => k2 (e ▸ h.tp)) (fun e => k3 (h.tb k e))
  refine ⟨⟨h.ok.addB name text wr hl ht, ?_, hp, ?_, ?_, ?_, ?_, ?_, ?_, ?_, ?_, ?_, ?_⟩, ?_⟩
  · exact (hκ L.p (h.lt (by rw [h.tp]; exact Tag.noConfusion)) (by rw [h.tp]; exact Tag.noConfusion)).trans h.tp
  · have e : ((m.addB name text wr).books.map fun b => pt ((L.addB nb m.next tv v).bk b.id)) = (m.books.map fun b => pt (L.bk b.id)) ++ [pt nb] := by
      show ((m.books ++ [_]).map _) = _
      rw [List.map_append, List.map_singleton]
      have q1 : (m.books.map fun b => pt ((L.addB nb m.next tv v).bk b.id)) = m.books.map fun b => pt (L.bk b.id) := List.map_congr_left fun b hb => by rw [hbk b hb]
      rw [q1]
      show _ ++ [pt ((L.addB nb m.next tv v).bk m.next)] = _
      rw [hbn]
    have e' : (m.addB name text wr).books.length = m.books.length + 1 := by show (m.books ++ [_]).length = _; simp
    rw [e, e']
    exact hr
  · exact fun g hg => hκr g hg
  · exact ownsRow_of_block h.rf fun g hg => hoth g (by rw [h.tf g hg]; exact Tag.noConfusion) (by rw [h.tf g hg]; exact Tag.noConfusion) (by rw [h.tf g hg]; exact Tag.noConfusion)
  · exact fun g hg => (hκ g (h.lt (by rw [h.tf g hg]; exact Tag.noConfusion)) (by rw [h.tf g hg]; exact Tag.noConfusion)).trans (h.tf g hg)
  · intro b hb
    rcases hm b hb with hb | rfl
    · rw [hbk b hb]
      exact (hκ (L.bk b.id) (h.lt (by rw [h.kb b hb]; exact Tag.noConfusion)) (by rw [h.kb b hb]; exact Tag.noConfusion)).trans (h.kb b hb)
    · show κB κ nb m.next tv v ((L.addB nb m.next tv v).bk m.next) = .bk m.next
      rw [hbn]; exact if_pos rfl
  · intro b hb
    rcases hm b hb with hb | rfl
    · have e : (L.addB nb m.next tv v).bcells b = L.bcells b := by unfold Lay.bcells; rw [htv' b hb]
      rw [hbk b hb, e]
      exact (hoth (L.bk b.id) (by rw [h.kb b hb]; exact Tag.noConfusion) (by rw [h.kb b hb]; exact Tag.noConfusion) (by rw [h.kb b hb]; exact Tag.noConfusion)).trans (h.hb b hb)
    · show w'.heap[(L.addB nb m.next tv v).bk m.next]? = some (.cells #[.string name, (L.addB nb m.next tv v).tv m.next, .bool wr] _ (0, 0))
      rw [hbn, htn]; exact hc
  · intro b hb
    rcases hm b hb with hb | rfl
    · rw [htv' b hb]
      exact (h.tx b hb).of_block (fun g hg => (hκ g (h.lt (by rw [hg]; exact Tag.noConfusion)) (by rw [hg]; exact Tag.noConfusion)).trans hg) (fun g hg => hoth g (by rw [hg]; exact Tag.noConfusion) (by rw [hg]; exact Tag.noConfusion) (by rw [hg]; exact Tag.noConfusion))
    · show TxAt _ (.tx m.next) w' ((L.addB nb m.next tv v).tv m.next) text
      rw [htn]; exact htx _ hκt
  · exact fun f hf => (hκ (L.fl f.num) (h.lt (by rw [h.kf f hf]; exact Tag.noConfusion)) (by rw [h.kf f hf]; exact Tag.noConfusion)).trans (h.kf f hf)
  · intro f hf
    obtain ⟨b, hb, e⟩ := h.ok.has f hf
    have e' : (L.addB nb m.next tv v).fcells f = L.fcells f := by
      unfold Lay.fcells
      rw [← e, hbk b hb]
    rw [e']
    exact (hoth (L.fl f.num) (by rw [h.kf f hf]; exact Tag.noConfusion) (by rw [h.kf f hf]; exact Tag.noConfusion) (by rw [h.kf f hf]; exact Tag.noConfusion)).trans (h.hf f hf)
  · intro k hk
    have hnb' : nb < w'.heap.size := (Array.getElem?_eq_some_iff.1 hc).1
    unfold κB
    rw [if_neg (by omega), if_neg (fun e => by have := (htv k e).2.2; omega), if_neg (fun e => by have := (hr.lt k e).2; omega)]
    exact h.top k (by omega)
  · refine ⟨h1, h2, h3, hsz, fun k hk hn => ho k hk (fun e => ?_) (fun e => ?_), fun k hk => ?_⟩
    · rw [e, h.tp] at hn; exact Tag.noConfusion hn
    · rw [h.tb k e] at hn; exact Tag.noConfusion hn
    · by_cases hrb : κ k = .rb
      · rw [hrb]
        unfold κB
        rw [if_neg (by omega), if_neg (fun e => by have := (htv k e).1; omega)]
        split <;> simp_all
      · rw [hκ k hk hrb]
end Go.Proofs.Ytonmdifmlpfcpaa.PB
