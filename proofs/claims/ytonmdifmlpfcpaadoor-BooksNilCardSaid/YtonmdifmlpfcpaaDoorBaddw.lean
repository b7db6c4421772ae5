import Derived.StillTailTactics
import Derived.ArgAppend
import Derived.Below
import Derived.BigQuiet
import Derived.Deep.AppendLies
import Derived.Deep.CutBlock
import Derived.Deep.DeepCutAuto
import Derived.Deep.Draws
import Derived.Deep.LoopGhost
import Derived.Deep.OwnRows
import Derived.Deep.QuietTactic
import Derived.Deep.RegionHeld3
import Derived.KernelRfl
import Derived.Laws.Bits64b
import Derived.Laws.BitsLemmas
import Derived.Laws.BytesArg
import Derived.Laws.Externs
import Derived.Laws.IdiomCopy
import Derived.Laws.MakeOwn
import Derived.Laws.MathBits
import Derived.Laws.OwnMore
import Derived.Laws.Rows
import Derived.Laws.Slices
import Derived.Lib.AppendStr
import Derived.Lib.ConvBytes
import Derived.Maps.AppendAt
import Derived.OrdersHeld
import Derived.OwnWalk
import Derived.RowKit
import Derived.RowKit3
import Derived.Tactics
import Derived.Test.YtonmdifmlpfcpaaDoorProg
import Derived.WalkKit
import Derived.WideLaws
import Derived.Lib.Walk
import Derived.Lib.SliceRun
import Derived.Lib.JoinLaws
import Derived.Lib.AppendZeros
import Derived.Lib.Overlaps
import Derived.Lib.AppendZerosOnto
import Derived.Shelf.RegionOpenPlain
import Derived.Shelf.Spec.SlicesInsert
import Derived.Deep.RegionLaw
import Derived.Test.YtonmdifmlpfcpaaDoorWWords
import Derived.Test.YtonmdifmlpfcpaaDoorWLast
import Derived.Test.YtonmdifmlpfcpaaDoorWTab
import Derived.Test.YtonmdifmlpfcpaaDoorWFour
import Derived.Test.YtonmdifmlpfcpaaDoorWQPut
import Derived.Test.YtonmdifmlpfcpaaDoorWApart
import Derived.Test.YtonmdifmlpfcpaaDoorWArr
import Derived.Test.YtonmdifmlpfcpaaDoorWZeros
import Derived.Test.YtonmdifmlpfcpaaDoorWFoot
import Derived.Test.YtonmdifmlpfcpaaDoorWKept
import Derived.Test.YtonmdifmlpfcpaaDoorWShare
import Derived.Test.YtonmdifmlpfcpaaDoorWN
import Derived.Test.YtonmdifmlpfcpaaDoorWFootNe
import Derived.Test.YtonmdifmlpfcpaaDoorWAt
import Derived.Test.YtonmdifmlpfcpaaDoorWEqStruct
import Derived.Test.YtonmdifmlpfcpaaDoorWRepsOne
import Derived.Test.YtonmdifmlpfcpaaDoorWInv
import Derived.Test.YtonmdifmlpfcpaaDoorWInvWords
import Derived.Test.YtonmdifmlpfcpaaDoorWGuard
import Derived.Test.YtonmdifmlpfcpaaDoorWNEv
import Derived.Test.YtonmdifmlpfcpaaDoorWMore
import Derived.Test.YtonmdifmlpfcpaaDoorBadd1
import Derived.Test.YtonmdifmlpfcpaaDoorBins3
namespace Go.Proofs.YtonmdifmlpfcpaaDoor.PB
open Go.RowKit Go.Proofs.YtonmdifmlpfcpaaDoorW.PrintWords Go.Proofs.YtonmdifmlpfcpaaDoorW.PrintLast Go.Proofs.YtonmdifmlpfcpaaDoorW.PrintMore
set_option linter.unusedVariables false
set_option linter.unusedSimpArgs false
set_option maxRecDepth 100000
set_option maxHeartbeats 1000000
def newF (n g : Nat) (a b c : Bool) : Array Value := #[.int .i64 n, .pointer (some ⟨g, 0, none⟩), .int .i64 0, .int .i64 0, .bool false, .bool a, .bool b, .bool false, .bool false, .bool c]
theorem Bxs.put1 {w wx : World} {g : Nat} {cs cs' : Array Value} {t : TypeId} (h : Bxs w wx [(g, cs, t)]) (hg : w.heap.size ≤ g) (i : Nat) (u : Value) (e : cs.setIfInBounds i u = cs') : Bxs w (wx.setCell ⟨g, i, none⟩ u) [(g, cs', t)] := by
  refine ⟨fun p hp => ?_, below_set h.b hg⟩
  obtain rfl := List.mem_singleton.1 hp
  exact blk_put h.get i u e
theorem add_pre {κ : Nat → Tag} {L : Lay} {w W3 w4 : World} {m : MW} {o : Obj} (h : WAt κ L w m) (hX : Below w.heap.size w W3) (hgr : (W3.alloc o).grownBy w4 L.vf.ownBlock) :
    w4.heap[L.p]? = some (.cells #[L.vb, L.vf] 67 (0, 0)) ∧ L.p < w.heap.size := by
  have hp : L.p < w.heap.size := h.lt (k := L.p) (by rw [h.tp]; exact Tag.noConfusion)
  have hp3 : L.p < W3.heap.size := Nat.lt_of_lt_of_le hp hX.size
  refine ⟨?_, hp⟩
  rw [hgr.block L.p (by simp; omega) (fun e => by have := h.tf L.p e.symm; rw [h.tp] at this; exact Tag.noConfusion this), Below.heap_alloc _ _ _ hp3, hX.block L.p hp]
  exact h.hp
theorem add_end {κ : Nat → Tag} {L : Lay} {w W3 w4 : World} {m : MW} {b : MBk} {v' : Value} {o : Obj} (h : WAt κ L w m) (hb : b ∈ m.books) (hl : m.files.length < 20) (hX : Bxs w W3 [(w.heap.size, newF m.addN (L.bk b.id) true true true, 77)])
    (hown : w4.ownsRow 0 74 1 v' (m.files.length + 1) ((m.files.map fun f => pt (L.fl f.num)).take (m.addN - 1) ++ pt w.heap.size :: (m.files.map fun f => pt (L.fl f.num)).drop (m.addN - 1)))
    (hgr : (W3.alloc o).grownBy w4 L.vf.ownBlock) (ho : v'.ownBlock = L.vf.ownBlock ∨ v'.ownBlock = some (W3.alloc o).heap.size) :
    St κ w (κF κ w.heap.size m.addN v') (L.addF w.heap.size m.addN v') (w4.setCell ⟨L.p, 1, none⟩ v') (m.addF b.id) := by
  obtain ⟨hP, hp⟩ := add_pre h hX.b hgr
  have hs3 : w.heap.size < W3.heap.size := (Array.getElem?_eq_some_iff.1 hX.get).1
  have hsa : (W3.alloc o).heap.size = W3.heap.size + 1 := by simp
  have hs4 : W3.heap.size + 1 ≤ w4.heap.size := by rw [← hsa]; exact hgr.size
  have hset : (w4.setCell ⟨L.p, 1, none⟩ v').heap.size = w4.heap.size := by simp [World.setCell]
  have hnew : L.vf.ownBlock ≠ some w.heap.size := fun e => by
    have := h.lt (k := w.heap.size) (by rw [h.tf _ e]; exact Tag.noConfusion); omega
  have hpb : ∀ g, v'.ownBlock = some g → g ≠ L.p := fun g hg => by
    rcases ho with ho | ho
    · rintro rfl
      have := h.tf L.p (ho ▸ hg)
      rw [h.tp] at this; exact Tag.noConfusion this
    · rw [ho] at hg; injection hg with hg; omega
  refine WAt.addF h hb hl w.heap.size v' (Nat.le_refl _) ?_ (hgr.os.trans hX.b.os) (hgr.tape.trans hX.b.tape) (hgr.output.trans hX.b.output) (by rw [hset]; omega) ?_ ?_ ?_ ?_
  · rcases ho with ho | ho
    · exact .inl ho
    · exact .inr ⟨_, ho, by omega, by omega⟩
  · rw [Below.heap_setCell _ _ _ _ (by show w.heap.size ≠ L.p; omega), hgr.block w.heap.size (by omega) hnew.symm, Below.heap_alloc _ _ _ hs3]
    exact hX.get
  · exact blk_put hP 1 v' rfl
  · rw [← List.map_take, ← List.map_drop] at hown
    exact ownsRow_of_block hown fun g hg => Below.heap_setCell _ _ _ _ (hpb g hg)
  · intro k hk hkp hkv
    rw [Below.heap_setCell _ _ _ _ (by exact hkp), hgr.block k (by omega) (fun e => hkv e.symm), Below.heap_alloc _ _ _ (by omega)]
    exact hX.b.block k hk
theorem pt_one (l : List MFl) (L : Lay) : ∀ v ∈ (l.map fun f => pt (L.fl f.num)), v.oneCell' = true := fun v hv => by
  obtain ⟨f, _, rfl⟩ := List.mem_map.1 hv
  rfl
theorem add_ins {κ : Nat → Tag} {L : Lay} {w W3 : World} {m : MW} {b : MBk} {s : Nat} (h : WAt κ L w m) (hb : b ∈ m.books) (hl : m.files.length < 20) (hs : w.heap.size = s) (hX : Bxs w W3 [(s, newF m.addN (L.bk b.id) true true true, 77)]) (v : Value) (hv : L.vf = v) :
    Calls Tryd.prog 74 #[v, .int .i64 ((m.addN : Int) - 1), .slice (some ⟨W3.heap.size, 0, none⟩) 1 1] (W3.alloc (.cells #[.pointer (some ⟨s, 0, none⟩)] 74)) fun e w4 => ∃ g cap, e = .returned (.slice (some ⟨g, 0, none⟩) (m.files.length + 1) cap) ∧
      (w4.cell? ⟨L.p, 1, none⟩ = some L.vf ∧ w4.frozen? ⟨L.p, 1, none⟩ = false) ∧
      St κ w (κF κ s m.addN (.slice (some ⟨g, 0, none⟩) (m.files.length + 1) cap)) (L.addF s m.addN (.slice (some ⟨g, 0, none⟩) (m.files.length + 1) cap)) (w4.setCell ⟨L.p, 1, none⟩ (.slice (some ⟨g, 0, none⟩) (m.files.length + 1) cap)) (m.addF b.id) := by
  subst hs
  subst hv
  obtain ⟨l1, l2, e1, e2, e3, e4, e5⟩ := add_split h.ok b.id
  have hle : m.addN - 1 ≤ m.files.length := by rw [e1, List.length_append]; omega
  rw [show (m.addN : Int) - 1 = ((m.addN - 1 : Nat) : Int) by omega]
  have hlt : ∀ g, L.vf.ownBlock = some g → g < w.heap.size := fun g hg => (h.rf.lt g hg).2
  have hown3 : (W3.alloc (.cells #[.pointer (some ⟨w.heap.size, 0, none⟩)] 74)).ownsRow 0 74 1 L.vf m.files.length (m.files.map fun f => pt (L.fl f.num)) :=
    ownsRow_of_block h.rf fun g hg => (Below.heap_alloc _ _ _ (Nat.lt_of_lt_of_le (hlt g hg) hX.b.size)).trans (hX.b.block g (hlt g hg))
  refine (insert_any L.vf m.files.length (m.addN - 1) W3.heap.size _ (pt w.heap.size) _ hown3 hle (fun g hg => by have := hlt g hg; have := hX.b.size; omega) rfl (blk_new _ _) (pt_one _ _) (by omega)).mono ?_
  rintro e w4 ⟨v', rfl, hown, hgr, ho⟩
  rcases row_cases hown with ⟨rfl, h0⟩ | ⟨g, cap, rfl, _, _, _⟩
  · omega
  have hpre := add_pre h hX.b hgr
  exact ⟨g, cap, rfl, ⟨(blk_cell hpre.1 1).trans rfl, blk_frozen hpre.1 1⟩, add_end h hb hl hX hown hgr ho⟩
theorem add_walk {κ : Nat → Tag} {L : Lay} {m : MW} (w : World) (h : WAt κ L w m) {b : MBk} (hb : b ∈ m.books) (hl : m.files.length < 20) :
    Calls Tryd.prog 53 #[pt L.p, pt (L.bk b.id)] w fun e w' => ∃ κ' L', L'.p = L.p ∧ L'.bk = L.bk ∧ L'.tv = L.tv ∧ L'.vb = L.vb ∧ e = .returned (pt (L'.fl m.addN)) ∧ St κ w κ' L' w' (m.addF b.id) := by
  have H := Aside0.mk h
  have HB := Aside0.mk hb
  obtain ⟨⟨z0, z1⟩, f0, f1⟩ := h.head
  have hrow := h.rowF
  have hlen : m.files.length ≤ 20 := h.ok.fs
  have hpp := Aside0.mk (h.lt (k := L.p) (by rw [h.tp]; exact Tag.noConfusion))
  clear h hb
  unfold pt
  generalize hg : L.bk b.id = gb at *
  rcases hrow with ⟨hv, hn⟩ | ⟨g, cap, hv, hc⟩
  · rw [hv] at z1
    have hN : m.addN = 1 := by unfold MW.addN; rw [hn]; rfl
    have hn0 : m.files.length = 0 := by rw [hn]; rfl
    clear hn
    go_enter Tryd.func53, Tryd.ntmps53
    go_wp2
    go_loop [5, 14] (fun a i => a = .int .i64 1 ∧ i = .int .i64 0) (fun _ i => 0)
    case atStart => exact ⟨rfl, rfl⟩
    case round =>
      obtain ⟨rfl, rfl⟩ := hrel
      go_wp2
      have HX := (bxs_nil w).push #[.int .i64 1, .pointer (some ⟨gb, 0, none⟩), .int .i64 0, .int .i64 0, .bool false, .bool false, .bool false, .bool false, .bool false, .bool false] 77
      generalize (w.alloc (.cells #[.int .i64 1, .pointer (some ⟨gb, 0, none⟩), .int .i64 0, .int .i64 0, .bool false, .bool false, .bool false, .bool false, .bool false, .bool false] 77)) = W1 at *
      have HX1 := Aside0.mk HX
      have q5 := blk_frozen HX.get 5
      have q6 := blk_frozen HX.get 6
      have q9 := blk_frozen HX.get 9
      have p5 := blk_cell HX.get 5
      have p6 := blk_cell HX.get 6
      have p9 := blk_cell HX.get 9
      clear HX
      generalize hs : w.heap.size = s at *
      go_region
      have HX3 : Aside0 (Bxs w ((((W1.setCell ⟨s, 5, none⟩ (.bool true)).setCell ⟨s, 6, none⟩ (.bool true)).setCell ⟨s, 9, none⟩ (.bool true)).drew) [(s, newF m.addN gb true true true, 77)]) :=
        ⟨by rw [hN]; exact (((HX1.out.put1 (by omega) 5 _ rfl).put1 (by omega) 6 _ rfl).put1 (by omega) 9 _ rfl).drew⟩
      generalize (((W1.setCell ⟨s, 5, none⟩ (.bool true)).setCell ⟨s, 6, none⟩ (.bool true)).setCell ⟨s, 9, none⟩ (.bool true)).drew = W3 at *
      clear q5 q6 q9 p5 p6 p9 HX1 f0 f1 z0
      have z3 : W3.cell? ⟨L.p, 1, none⟩ = some (.slice none 0 0) := (HX3.out.b.cell (p := ⟨L.p, 1, none⟩) (by rw [hs]; exact hpp.out)).trans z1
      clear z1
      go_wp2_with fail
      subst hg
      have hins := add_ins H.out HB.out hl hs HX3.out _ hv
      rw [show (m.addN : Int) - 1 = 0 by omega] at hins
      refine hins.mono ?_
      rintro e w4 ⟨g', cap', rfl, ⟨c4, f4⟩, hst⟩
      have HE := Aside0.mk hst
      rw [hv] at c4
      clear hst z3 HX3 hv
      go_wp2
      go_ret
      exact ⟨κF κ s m.addN (.slice (some ⟨g', 0, none⟩) (m.files.length + 1) cap'), L.addF s m.addN (.slice (some ⟨g', 0, none⟩) (m.files.length + 1) cap'), rfl, rfl, rfl, rfl, by rw [show (L.addF s m.addN (.slice (some ⟨g', 0, none⟩) (m.files.length + 1) cap')).fl m.addN = s from if_pos rfl]; rfl, by have := HE.out; rw [hn0] at this ⊢; exact this⟩
  · have HC := Aside0.mk hc
    clear hc
    rw [hv] at z1
    go_enter Tryd.func53, Tryd.ntmps53
    go_wp2
    go_loop [5, 14] (fun a i => ∃ k n : Nat, k ≤ m.files.length ∧ n ≤ k + 1 ∧ i = .int .i64 k ∧ a = .int .i64 n ∧ Aside0 (leastN (m.files.drop k) n = m.addN)) (fun _ i => m.files.length - (intOf i).toNat)
    case atStart => exact ⟨0, 1, Nat.zero_le _, Nat.le_refl _, rfl, rfl, ⟨rfl⟩⟩
    case round =>
      obtain ⟨k, n, hk, hnk, rfl, rfl, HN⟩ := hrel
      by_cases hlt : k < m.files.length
      · have hc1 := HC.out k hlt
        have hf := (H.out.fc (List.getElem_mem hlt)).1.1
        have hd : m.files.drop k = m.files[k] :: m.files.drop (k + 1) := List.drop_eq_getElem_cons hlt
        rw [hd] at HN
        unfold pt at hc1
        clear hd
        generalize m.files[k] = f at *
        unfold leastN at HN
        by_cases he : f.num = n
        · rw [if_pos he] at HN
          rw [he] at hf
          go_wp2
          go_round
          case rel => exact ⟨k + 1, n + 1, by omega, by omega, by go_num, by go_num, HN⟩
          case measure => simp [intOf]; omega
        · rw [if_neg he] at HN
          have he' : ¬ ((f.num : Int) = (n : Int)) := by omega
          go_wp2
          go_round
          case rel => exact ⟨k + 1, n, by omega, by omega, by go_num, rfl, HN⟩
          case measure => simp [intOf]; omega
      · obtain rfl : k = m.files.length := by omega
        have hd : m.files.drop m.files.length = [] := List.drop_length ..
        rw [hd] at HN
        obtain rfl : n = m.addN := HN.out
        clear hd HN
        go_wp2
        have HX := (bxs_nil w).push #[.int .i64 m.addN, .pointer (some ⟨gb, 0, none⟩), .int .i64 0, .int .i64 0, .bool false, .bool false, .bool false, .bool false, .bool false, .bool false] 77
        generalize (w.alloc (.cells #[.int .i64 m.addN, .pointer (some ⟨gb, 0, none⟩), .int .i64 0, .int .i64 0, .bool false, .bool false, .bool false, .bool false, .bool false, .bool false] 77)) = W1 at *
        have HX1 := Aside0.mk HX
        have q5 := blk_frozen HX.get 5
        have q6 := blk_frozen HX.get 6
        have q9 := blk_frozen HX.get 9
        have p5 := blk_cell HX.get 5
        have p6 := blk_cell HX.get 6
        have p9 := blk_cell HX.get 9
        clear HX
        generalize hs : w.heap.size = s at *
        go_region
        have HX3 : Aside0 (Bxs w ((((W1.setCell ⟨s, 5, none⟩ (.bool true)).setCell ⟨s, 6, none⟩ (.bool true)).setCell ⟨s, 9, none⟩ (.bool true)).drew) [(s, newF m.addN gb true true true, 77)]) :=
          ⟨(((HX1.out.put1 (by omega) 5 _ rfl).put1 (by omega) 6 _ rfl).put1 (by omega) 9 _ rfl).drew⟩
        generalize (((W1.setCell ⟨s, 5, none⟩ (.bool true)).setCell ⟨s, 6, none⟩ (.bool true)).setCell ⟨s, 9, none⟩ (.bool true)).drew = W3 at *
        clear q5 q6 q9 p5 p6 p9 HX1 f0 f1 z0
        have z3 : W3.cell? ⟨L.p, 1, none⟩ = some (.slice (some ⟨g, 0, none⟩) m.files.length cap) := (HX3.out.b.cell (p := ⟨L.p, 1, none⟩) (by rw [hs]; exact hpp.out)).trans z1
        clear z1
        go_wp2_with fail
        subst hg
        refine (add_ins H.out HB.out hl hs HX3.out _ hv).mono ?_
        rintro e w4 ⟨g', cap', rfl, ⟨c4, f4⟩, hst⟩
        have HE := Aside0.mk hst
        rw [hv] at c4
        clear hst z3 HX3 hv
        go_wp2
        go_ret
        exact ⟨_, L.addF s m.addN (.slice (some ⟨g', 0, none⟩) (m.files.length + 1) cap'), rfl, rfl, rfl, rfl, by rw [show (L.addF s m.addN (.slice (some ⟨g', 0, none⟩) (m.files.length + 1) cap')).fl m.addN = s from if_pos rfl]; rfl, HE.out⟩
end Go.Proofs.YtonmdifmlpfcpaaDoor.PB
