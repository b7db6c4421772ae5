import Derived.StillTailTactics
import Derived.ArgAppend
import Derived.Below
import Derived.BigQuiet
import Derived.Deep.AppendLies
import Derived.Deep.CutBlock
import Derived.Deep.DeepCutAuto
import Derived.Deep.Draws
import Derived.Deep.LoopGhost
import Derived.Deep.OwnRows
import Derived.Deep.QuietTactic
import Derived.Deep.RegionHeld3
import Derived.KernelRfl
import Derived.Laws.Bits64b
import Derived.Laws.BitsLemmas
import Derived.Laws.BytesArg
import Derived.Laws.Externs
import Derived.Laws.IdiomCopy
import Derived.Laws.MakeOwn
import Derived.Laws.MathBits
import Derived.Laws.OwnMore
import Derived.Laws.Rows
import Derived.Laws.Slices
import Derived.Lib.AppendStr
import Derived.Lib.ConvBytes
import Derived.Maps.AppendAt
import Derived.OrdersHeld
import Derived.OwnWalk
import Derived.RowKit
import Derived.RowKit3
import Derived.Tactics
import Derived.Test.YtonmdifmlpfcpaaProg
import Derived.WalkKit
import Derived.WideLaws
import Derived.Lib.Walk
import Derived.Lib.SliceRun
import Derived.Lib.JoinLaws
import Derived.Lib.AppendZeros
import Derived.Lib.Overlaps
import Derived.Lib.AppendZerosOnto
import Derived.Shelf.RegionOpenPlain
import Derived.Shelf.Spec.SlicesInsert
import Derived.Deep.RegionLaw
import Derived.Lib.BufferRead
import Derived.Laws.IdiomStrings
import Derived.Test.YtonmdifmlpfcpaaWWords
import Derived.Test.YtonmdifmlpfcpaaWLast
import Derived.Test.YtonmdifmlpfcpaaWTab
import Derived.Test.YtonmdifmlpfcpaaWFour
import Derived.Test.YtonmdifmlpfcpaaWQPut
import Derived.Test.YtonmdifmlpfcpaaWApart
import Derived.Test.YtonmdifmlpfcpaaWArr
import Derived.Test.YtonmdifmlpfcpaaWZeros
import Derived.Test.YtonmdifmlpfcpaaWFoot
import Derived.Test.YtonmdifmlpfcpaaWKept
import Derived.Test.YtonmdifmlpfcpaaWShare
import Derived.Test.YtonmdifmlpfcpaaWN
import Derived.Test.YtonmdifmlpfcpaaWFootNe
import Derived.Test.YtonmdifmlpfcpaaWAt
import Derived.Test.YtonmdifmlpfcpaaWEqStruct
import Derived.Test.YtonmdifmlpfcpaaWRepsOne
import Derived.Test.YtonmdifmlpfcpaaWInv
import Derived.Test.YtonmdifmlpfcpaaWInvWords
import Derived.Test.YtonmdifmlpfcpaaWGuard
import Derived.Test.YtonmdifmlpfcpaaWNEv
import Derived.Test.YtonmdifmlpfcpaaWMore
import Derived.Test.YtonmdifmlpfcpaaBmC
namespace Go.Proofs.Ytonmdifmlpfcpaa.PB
open Go.RowKit Go.Proofs.YtonmdifmlpfcpaaW.PrintWords Go.Proofs.YtonmdifmlpfcpaaW.PrintLast Go.Proofs.YtonmdifmlpfcpaaW.PrintMore
set_option linter.unusedVariables false
set_option linter.unusedSimpArgs false
set_option maxRecDepth 100000
set_option maxHeartbeats 1000000
/-- the error of a file and an event -/
def MW.flagE (m : MW) (n ev evs : Int) : Int :=
  match m.file n with
  | none => 29
  | some _ => if ev < 0 ∨ evs ≤ ev then 1 else 0
def fileP (L : Lay) : Option MFl → Value
  | some f => pt (L.fl f.num)
  | none => .pointer none
theorem flagged_walk {κ : Nat → Tag} {L : Lay} {m : MW} (n ev evs : Int) (w : World) (h : WAt κ L w m) (p : Value) (e : Int) (hp : fileP L (m.file n) = p) (hr : m.flagE n ev evs = e) : Calls Try.prog 50 #[pt L.p, .int .i64 n, .int .i64 ev, .int .i64 evs] w fun x w' => x = .returned (.tuple #[p, .int .i64 e]) ∧ w = w' := by
  unfold MW.flagE at hr
  cases hfile : m.file n with
  | none =>
    have HF := Aside0.mk (file_none h hfile)
    rw [hfile] at hr hp
    subst hr
    subst hp
    clear h hfile
    unfold pt at *
    go_enter Try.func50, Try.ntmps50
    go_wp2_with (go_at_call 41; refine HF.out.mono ?_; rintro e w' ⟨rfl, rfl⟩)
    go_ret2
    exact ⟨rfl, rfl⟩
  | some f =>
    have HF := Aside0.mk (file_some h hfile)
    rw [hfile] at hr hp
    subst hp
    clear h hfile
    unfold fileP pt at *
    by_cases h0 : ev < 0
    · simp only [if_pos (Or.inl h0 : ev < 0 ∨ evs ≤ ev)] at hr
      subst hr
      go_enter Try.func50, Try.ntmps50
      go_wp2_with (go_at_call 41; refine HF.out.mono ?_; rintro e w' ⟨rfl, rfl⟩)
      go_ret2
      exact ⟨rfl, rfl⟩
    · by_cases h1 : evs ≤ ev
      · simp only [if_pos (Or.inr h1 : ev < 0 ∨ evs ≤ ev)] at hr
        subst hr
        go_enter Try.func50, Try.ntmps50
        go_wp2_with (go_at_call 41; refine HF.out.mono ?_; rintro e w' ⟨rfl, rfl⟩)
        go_ret2
        exact ⟨rfl, rfl⟩
      · simp only [if_neg (show ¬ (ev < 0 ∨ evs ≤ ev) by omega)] at hr
        subst hr
        go_enter Try.func50, Try.ntmps50
        go_wp2_with (go_at_call 41; refine HF.out.mono ?_; rintro e w' ⟨rfl, rfl⟩)
        go_ret2
        exact ⟨rfl, rfl⟩
def MW.flag (m : MW) (n ev : Int) : Bool × Int :=
  match m.file n with
  | none => (false, 29)
  | some f => if ev < 0 ∨ 6 ≤ ev then (false, 1) else (f.fl ev.toNat, 0)
theorem flag_walk {κ : Nat → Tag} {L : Lay} {m : MW} (n ev : Int) (w : World) (h : WAt κ L w m) (b : Bool) (e : Int) (hr : m.flag n ev = (b, e)) : Calls Try.prog 37 #[pt L.p, .int .i64 n, .int .i64 ev] w fun x w' => x = .returned (.tuple #[.bool b, .int .i64 e]) ∧ w = w' := by
  have HF := Aside0.mk (flagged_walk n ev 6 w h _ _ rfl rfl)
  unfold MW.flag at hr
  unfold MW.flagE at HF
  cases hfile : m.file n with
  | none =>
    rw [hfile] at hr HF
    obtain ⟨rfl, rfl⟩ := Prod.mk.inj hr
    clear h hfile
    unfold fileP pt at *
    go_enter Try.func37, Try.ntmps37
    go_wp2_with (go_at_call 50; refine HF.out.mono ?_; rintro e w' ⟨rfl, rfl⟩)
    go_ret2
    exact ⟨rfl, rfl⟩
  | some f =>
    have hf := (MW.file_mem hfile).1
    rw [hfile] at hr HF
    unfold fileP pt at *
    by_cases hb : ev < 0 ∨ 6 ≤ ev
    · simp only [if_pos hb] at hr HF
      obtain ⟨rfl, rfl⟩ := Prod.mk.inj hr
      clear h hfile
      go_enter Try.func37, Try.ntmps37
      go_wp2_with (go_at_call 50; refine HF.out.mono ?_; rintro e w' ⟨rfl, rfl⟩)
      go_ret2
      exact ⟨rfl, rfl⟩
    · simp only [if_neg hb] at hr HF
      obtain ⟨rfl, rfl⟩ := Prod.mk.inj hr
      obtain ⟨k, rfl⟩ : ∃ k : Nat, ev = k := ⟨ev.toNat, by omega⟩
      obtain ⟨z, _⟩ := h.flag hf k (by omega)
      rw [Int.toNat_natCast]
      have hk6 : k < 6 := by omega
      clear h hfile hb
      generalize f.fl k = v at *
      go_enter Try.func37, Try.ntmps37
      go_wp2_with (go_at_call 50; refine HF.out.mono ?_; rintro e w' ⟨rfl, rfl⟩)
      go_ret2
      exact ⟨rfl, rfl⟩
def MW.ended (m : MW) (n ev : Int) : Bool × Int :=
  match m.file n with
  | none => (false, 29)
  | some f => if ev < 0 ∨ 3 ≤ ev then (false, 1) else
    if (m.text f).length ≤ f.pos then (true, 0) else
    (decide (ev = 1 ∧ ((m.text f).getD f.pos 0).toNat = 12 ∨ ev = 2 ∧ (((m.text f).getD f.pos 0).toNat = 12 ∨ ((m.text f).getD f.pos 0).toNat = 10)), 0)
theorem ended_walk {κ : Nat → Tag} {L : Lay} {m : MW} (n ev : Int) (w : World) (h : WAt κ L w m) (b : Bool) (e : Int) (hr : m.ended n ev = (b, e)) : Calls Try.prog 17 #[pt L.p, .int .i64 n, .int .i64 ev] w fun x w' => x = .returned (.tuple #[.bool b, .int .i64 e]) ∧ Rd w w' := by
  have HF := Aside0.mk (flagged_walk n ev 3 w h _ _ rfl rfl)
  unfold MW.ended at hr
  unfold MW.flagE at HF
  cases hfile : m.file n with
  | none =>
    rw [hfile] at hr HF
    obtain ⟨rfl, rfl⟩ := Prod.mk.inj hr
    clear h hfile
    unfold fileP pt at *
    go_enter Try.func17, Try.ntmps17
    go_wp2_with (go_at_call 50; refine HF.out.mono ?_; rintro e w' ⟨rfl, rfl⟩)
    go_ret2
    exact ⟨rfl, Rd.refl _⟩
  | some f =>
    have hf := (MW.file_mem hfile).1
    rw [hfile] at hr HF
    unfold fileP pt at *
    by_cases hb : ev < 0 ∨ 3 ≤ ev
    · simp only [if_pos hb] at hr HF
      obtain ⟨rfl, rfl⟩ := Prod.mk.inj hr
      clear h hfile
      go_enter Try.func17, Try.ntmps17
      go_wp2_with (go_at_call 50; refine HF.out.mono ?_; rintro e w' ⟨rfl, rfl⟩)
      go_ret2
      exact ⟨rfl, Rd.refl _⟩
    · simp only [if_neg hb] at hr HF
      obtain ⟨z0, z1, z2, z3⟩ := (h.fc hf).1
      obtain ⟨g, a, cap, hg, hkg, t1, hl, hcl, hcm, hQ⟩ := h.ft hf
      rw [hg] at z1
      have HQ := Aside0.mk hQ
      have hp0 := (h.ok.pos f hf).2
      have hev : ev = 0 ∨ ev = 1 ∨ ev = 2 := by omega
      clear h hfile hf hg hkg hQ hcl hcm hb z3 z0
      generalize m.text f = t at *
      generalize f.pos = p at *
      generalize hfb : L.fl f.num = fb at *
      clear hfb
      by_cases hend : t.length ≤ p
      · rw [if_pos hend] at hr
        obtain ⟨rfl, rfl⟩ := Prod.mk.inj hr
        have hd : decide ((t.length : Int) ≤ (p : Int)) = true := decide_eq_true (by omega)
        go_enter Try.func17, Try.ntmps17
        go_wp2_with (go_at_call 50; refine HF.out.mono ?_; rintro e w' ⟨rfl, rfl⟩)
        go_quiet (fail)
        go_wp2
        go_ret2
        exact ⟨rfl, ⟨_, rfl⟩⟩
      · rw [if_neg hend] at hr
        obtain ⟨q, rfl, _, hc⟩ := HQ.out p (by omega)
        have hgd : t.getD p 0 = t[p]'(by omega) := by rw [List.getD_eq_getElem?_getD, List.getElem?_eq_getElem (by omega)]; rfl
        rw [hgd] at hr
        clear hgd
        generalize t[p]'(by omega) = c at *
        have hc0 : c.toNat ≤ 255 := by have := c.toNat_lt; omega
        generalize c.toNat = d at *
        obtain ⟨rfl, rfl⟩ := Prod.mk.inj hr
        have hd : decide ((t.length : Int) ≤ (p : Int)) = false := decide_eq_false (by omega)
        have hlt : (p : Int) < (t.length : Int) := by omega
        have hcases : (d = 12 ∧ ((d : Int) == 12) = true ∧ ((d : Int) == 10) = false) ∨ (d = 10 ∧ ((d : Int) == 12) = false ∧ ((d : Int) == 10) = true) ∨ (¬ d = 12 ∧ ¬ d = 10 ∧ ((d : Int) == 12) = false ∧ ((d : Int) == 10) = false) := by
          by_cases h1 : d = 12
          · exact .inl ⟨h1, by rw [h1]; rfl, by rw [h1]; rfl⟩
          · by_cases h2 : d = 10
            · exact .inr (.inl ⟨h2, by rw [h2]; rfl, by rw [h2]; rfl⟩)
            · exact .inr (.inr ⟨h1, h2, beq_eq_false_iff_ne.2 (by omega), beq_eq_false_iff_ne.2 (by omega)⟩)
        rcases hev with rfl | rfl | rfl <;> rcases hcases with ⟨rfl, h12, h10⟩ | ⟨rfl, h12, h10⟩ | ⟨n12, n10, h12, h10⟩
        all_goals
          go_enter Try.func17, Try.ntmps17
          go_wp2_with (go_at_call 50; refine HF.out.mono ?_; rintro e w' ⟨rfl, rfl⟩)
          go_quiet (fail)
          go_wp2
          go_quiet (fail)
          go_wp2
          go_ret2
          exact ⟨by first | rfl | simp_all, by first | exact ⟨_, rfl⟩ | exact Rd.trans ⟨_, rfl⟩ ⟨_, rfl⟩⟩
def bo_T : Bool × List (List Nat × List Nat) := (true, [([], []), ([], []), ([1], [1]), ([2], [2]), ([3], [3]), ([], []), ([5], [5]), ([6], [6]), ([7], [7]), ([8], [8]), ([], []), ([10], [10]), ([11], [11]), ([12], [12]), ([4, 9, 13], [4, 9, 13]), ([14], [14]), ([0, 15], [0, 15]), ([16, 16, 0, 1, 2, 3, 4, 5, 6, 7, 8, 9, 10, 11, 12, 13, 14, 15, 16], [0, 16])])
def bo_B : List Nat := [0, 0, 2, 6, 14, 0, 32, 96, 224, 480, 0, 1024, 3072, 7168, 16382, 32766, 65535, 131071]
theorem infoA : (Try.prog.info? 26).map (fun i => (i.zero, i.size, i.bytes)) = some (some (.agg #[.string ⟨#[]⟩, .string ⟨#[]⟩, .bool false]), 3, 40) := by kernel_rfl
/-- a book's cells, as Books shows it -/
def showB (b : MBk) : List Value := [.string b.name, .string ⟨b.text.toArray⟩, .bool b.write]
theorem append_book (v : Value) (n : Nat) (xs : List Value) (w : World) (base : Nat) (hbase : base ≤ w.heap.size) (hown : w.ownsRow base 26 3 v n xs) (vb : Nat) (p q r : Value) (hp : p.oneCell' = true) (hq : q.oneCell' = true) (hr : r.oneCell' = true) (hc : w.heap[vb]? = some (.cells #[p, q, r] 26 (0, 0))) (hn : n ≤ 1000) (ty : TypeId) :
    ∃ v' w', (Builtin.append_ #[22, 22] ty #[v, .slice (some ⟨vb, 0, none⟩) 1 1]).run Try.prog w = .ok v' w' ∧ w'.ownsRow base 26 3 v' (n + 1) (xs ++ [p, q, r]) ∧ w.grownBy w' v.ownBlock ∧ (v'.ownBlock = v.ownBlock ∨ v'.ownBlock = some w.heap.size) := by
  obtain ⟨i0, hi, hz0, hz1, hz2⟩ := info_parts infoA
  obtain ⟨v1, w1, hr, h2, h3, _, h5⟩ := run_append_own_at (P := Try.prog) w base 22 ty 26 i0 _ 3 40 Try.underlying22 hi hz0 hz1 hz2 rfl (by omega) v n xs hown ⟨vb, 0, none⟩ 1 1 [p, q, r] (by simp) (fun j u hu => by
    rw [Addr.add_lit]
    match j, hu with
    | 0, hu => simp at hu; subst hu; exact (blk_cell hc 0).trans rfl
    | 1, hu => simp at hu; subst hu; exact (blk_cell hc 1).trans rfl
    | 2, hu => simp at hu; subst hu; exact (blk_cell hc 2).trans rfl
    | j + 3, hu => simp at hu) (fun u hu => by
      simp at hu
      rcases hu with rfl | rfl | rfl <;> assumption) (by simp only [maxLen]; omega) (by omega) hbase
  exact ⟨v1, w1, hr, h2, h3, h5⟩
theorem conv_text {κ : Nat → Tag} {t : Tag} {w : World} {v : Value} {l : List UInt8} (h : TxAt κ t w v l) : (convert 60 9 v).run Try.prog w = .ok (.string ⟨l.toArray⟩) w := by
  rcases h with ⟨rfl, rfl⟩ | ⟨a, rfl, rfl⟩ | ⟨g, cap, cur, lo, hi, rfl, _, hc, _, _, _, _, ht⟩
  · exact Lib.run_convert_nil_bytes w 60 9 5 0 Try.underlying60 Try.underlying5 Try.underlying9
  · exact run_convert_bytes_back w 60 9 5 a 0 [] Try.underlying60 Try.underlying5 Try.underlying9 (fun j hj => absurd hj (Nat.not_lt_zero _))
  · refine run_convert_bytes_back w 60 9 5 ⟨g, 0, none⟩ cap l Try.underlying60 Try.underlying5 Try.underlying9 (fun j hj => ?_)
    rw [Addr.add_lit]
    show w.cell? ⟨g, 0 + j, none⟩ = _
    rw [Nat.zero_add]
    have h1 : (cur.toList.take l.length)[j]? = some (.int .u8 ((l[j]'hj).toNat)) := by
      rw [ht, u8s, List.getElem?_map, List.getElem?_eq_getElem hj]; rfl
    rw [List.getElem?_take, if_pos hj] at h1
    simp only [World.cell?, hc]
    simpa using h1
theorem cell_al3 {w : World} {o : Obj} {y : Addr} {v : Value} (h : w.cell? y = some v) : (w.alloc o).cell? y = some v :=
  (World.cell?_of_block (Below.heap_alloc w o y.block (World.block_lt_of_cell? w _ h))).trans h
/-- all books, in a row of the call's own -/
theorem books_walk {κ : Nat → Tag} {L : Lay} {m : MW} (w : World) (h : WAt κ L w m) :
    Calls Try.prog 16 #[pt L.p] w fun e w' => (∃ v, e = .returned v ∧ w'.ownsRow w.heap.size 26 3 v m.books.length (m.books.flatMap showB)) ∧ Below w.heap.size w w' := by
  have H := Aside0.mk h
  obtain ⟨⟨z0, z1⟩, _, _⟩ := h.head
  have hlen : m.books.length ≤ 67 := h.ok.bs
  have hrow : ∃ a cap, L.vb = .slice a m.books.length cap ∧ ∀ (w' : World), Below w.heap.size w w' → ∀ i (hi : i < m.books.length), ∃ g, a = some ⟨g, 0, none⟩ ∧ w'.cell? ⟨g, i, none⟩ = some (pt (L.bk (m.books[i]'hi).id)) := by
    rcases h.rowB with ⟨hv, hn⟩ | ⟨g, cap, hv, hc⟩
    · exact ⟨none, 0, by rw [hv, hn]; rfl, fun w' _ i hi => by rw [hn] at hi; exact absurd hi (Nat.not_lt_zero _)⟩
    · exact ⟨_, cap, hv, fun w' hb i hi => ⟨g, rfl, (hb.cell (World.block_lt_of_cell? w _ (hc i hi))).trans (hc i hi)⟩⟩
  obtain ⟨a, cap, hv, hc⟩ := hrow
  rw [hv] at z0
  have HC := Aside0.mk hc
  have hBB := Aside0.mk (Below.refl w.heap.size w)
  clear hc h
  unfold pt
  go_enter Try.func16, Try.ntmps16
  go_wp2
  go_loopw [3, 13] (fun o i wr => ∃ (k : Nat), k ≤ m.books.length ∧ i = .int .i64 k ∧ (∃ oa on oc, o = .slice oa on oc) ∧ Aside0 (Below w.heap.size w wr) ∧ Aside0 (wr.ownsRow w.heap.size 26 3 o k ((m.books.take k).flatMap showB))) (fun _ i _ => m.books.length - (intOf i).toNat)
  case atStart => exact ⟨0, Nat.zero_le _, rfl, ⟨_, _, _, rfl⟩, hBB, ⟨World.ownsRow_nil ..⟩⟩
  case round =>
    obtain ⟨k, hk, rfl, ⟨oa, on, oc, rfl⟩, HB, HO⟩ := hrel
    by_cases hlt : k < m.books.length
    · obtain ⟨g, rfl, hc1⟩ := HC.out wr HB.out k hlt
      have hbm := List.getElem_mem hlt
      have hW := H.out.below HB.out
      obtain ⟨⟨x0, x1, x2⟩, _⟩ := hW.bc hbm
      have hsn : (m.books.take (k + 1)).flatMap showB = (m.books.take k).flatMap showB ++ showB (m.books[k]) := by
        rw [List.take_succ_eq_append_getElem hlt, List.flatMap_append]; simp
      have HSN := Aside0.mk hsn
      have hcv : ∀ W, Below wr.heap.size wr W → (convert 60 9 (L.tv (m.books[k]).id)).run Try.prog W = .ok (.string ⟨(m.books[k]).text.toArray⟩) W := fun W hb => conv_text ((hW.below hb).tx _ hbm)
      have HCV := Aside0.mk hcv
      clear hsn hcv hbm hW
      unfold pt at hc1
      generalize m.books[k] = b at *
      have hvb := blk_new wr.drew (.cells #[.string b.name, .string ⟨b.text.toArray⟩, .bool b.write] 26)
      have hlo : w.heap.size ≤ wr.heap.size := HB.out.size
      have hBd : Below w.heap.size w wr.drew := HB.out.drew
      have hOd : wr.drew.ownsRow w.heap.size 26 3 (.slice oa on oc) k ((m.books.take k).flatMap showB) := HO.out
      obtain ⟨v', w', hr, hown, hgr, ho⟩ := append_book _ k _ (wr.drew.alloc (.cells #[.string b.name, .string ⟨b.text.toArray⟩, .bool b.write] 26)) w.heap.size (by show _ ≤ (wr.heap.push _).size; simp; omega) (hOd.alloc _) wr.heap.size _ _ _ rfl rfl rfl hvb (by omega) 22
      have hB' : Below w.heap.size w w' := (hBd.alloc (by exact hlo) _).grown hgr (by show _ ≤ (wr.heap.push _).size; simp; omega) (fun q hq => ((hOd.alloc (.cells #[.string b.name, .string ⟨b.text.toArray⟩, .bool b.write] 26)).lt q hq).1)
      have hsh : ∃ a n c, v' = .slice a n c := by
        rcases hown.2 with ⟨h, _⟩ | ⟨g, c, cur, h, _⟩
        · exact ⟨_, _, _, h⟩
        · exact ⟨_, _, _, h⟩
      obtain ⟨a', n', c', rfl⟩ := hsh
      have HRUN := Aside0.mk hr
      have HOWN := Aside0.mk hown
      have HB2 := Aside0.mk hB'
      have c0 := HCV.out wr.drew (below_drew1 (Below.refl _ _))
      have c1 := HCV.out (wr.drew.alloc (.cells #[.string b.name, .string ⟨b.text.toArray⟩, .bool b.write] 26)) ((below_drew1 (Below.refl _ _)).alloc (Nat.le_refl _) _)
      have hlt2 := hlt
      clear hr hown hgr ho hB' hvb hBd hOd
      generalize L.bk b.id = bb at *
      generalize L.tv b.id = tv at *
      go_upto_region 7 with fail
      refine start_ (n := 18) (S := fun w' => w'.cell? ⟨bb, 0, none⟩ = some (.string b.name) ∧ w'.cell? ⟨bb, 1, none⟩ = some tv ∧ w'.cell? ⟨bb, 2, none⟩ = some (.bool b.write) ∧ (convert 60 9 tv).run Try.prog w' = .ok (.string ⟨b.text.toArray⟩) w') (ds := [16]) (bl 18 0) (by kernel_rfl) (by kernel_rfl) (by kernel_rfl) (⟨x0, x1, x2, c0⟩) (fun hHeld => ?_)
      refine with_tabW (T := bo_T) (B := bo_B) (by as_aux_lemma => kernel_rfl) (by as_aux_lemma => kernel_rfl) (fun HT_ HW_ => ?_)
      refine pu 0 17 (bl 18 0x1) HT_ ?_
      refine pu 1 18 (bl 18 0x3) HT_ ?_
      refine pu 2 19 (bl 18 0x7) HT_ ?_
      refine pu 3 20 (bl 18 0xf) HT_ ?_
      refine ta 4 21 (bl 18 0x1f) HT_ HW_ hHeld ?_
      refine pu 5 22 (bl 18 0x3f) HT_ ?_
      refine pu 6 23 (bl 18 0x7f) HT_ ?_
      refine pu 7 24 (bl 18 0xff) HT_ ?_
      refine ta 8 25 (bl 18 0x1ff) HT_ HW_ hHeld ?_
      refine ta 9 26 (bl 18 0x3ff) HT_ HW_ hHeld ?_
      refine pu 10 27 (bl 18 0x7ff) HT_ ?_
      refine pu 11 28 (bl 18 0xfff) HT_ ?_
      refine pu 12 29 (bl 18 0x1fff) HT_ ?_
      refine ta 13 30 (bl 18 0x3fff) HT_ HW_ hHeld ?_
      refine pu 14 31 (bl 18 0x7fff) HT_ ?_
      refine one_ (i := 15) (N := some 32) (bl 18 0xffff) rfl rfl (one_of HT_.out (by as_aux_lemma => kernel_rfl)) (by decide) (fun K hK => ?_)
      rw [if_pos (by as_aux_lemma => kernel_rfl)]
      go_simp
      refine hK.out _ _ (⟨cell_al3 x0, cell_al3 x1, cell_al3 x2, c1⟩) (fun hHeld => ?_)
      clear hK K
      refine last_ (i := 16) (N := some 33) (bl 18 0x1ffff) rfl rfl (one_of HT_.out (by as_aux_lemma => kernel_rfl)) (by decide) (fun K hK => ?_)
      rw [if_pos (by as_aux_lemma => kernel_rfl)]
      refine Lib.wp_append_run _ (.tmp 17) (.tmp 32) 22 22 rfl (.slice oa on oc) (.slice (some ⟨wr.heap.size, 0, none⟩) 1 1) ?_ ?_ (.slice a' n' c') w' ?_ ?_
      · rfl
      · rfl
      · exact HRUN.out
      refine hK.out _ _ ?_
      clear hK K
      refine pu 17 3 (bl 18 0x3ffff) HT_ ?_
      refine done_ (done_of HT_.out (by as_aux_lemma => kernel_rfl)) ?_
      go_wp2
      go_roundw
      case rel => exact ⟨k + 1, by omega, by go_num, ⟨_, _, _, rfl⟩, HB2, ⟨by rw [HSN.out]; exact HOWN.out⟩⟩
      case measure => simp [intOf]; omega
    · obtain rfl : k = m.books.length := by omega
      have ht : m.books.take m.books.length = m.books := List.take_of_length_le (Nat.le_refl _)
      rw [ht] at HO
      clear ht
      go_wp2
      go_ret
      exact ⟨⟨_, rfl, HO.out⟩, HB.out⟩
theorem infoI : (Try.prog.info? 3).map (fun i => (i.zero, i.size, i.bytes)) = some (some (.int .i64 0), 1, 8) := by kernel_rfl
theorem append_int (v : Value) (n : Nat) (xs : List Value) (w : World) (base : Nat) (hbase : base ≤ w.heap.size) (hown : w.ownsRow base 3 1 v n xs) (vb : Nat) (p : Value) (hp : p.oneCell' = true) (hc : w.cell? ⟨vb, 0, none⟩ = some p) (hn : n ≤ 1000) (ty : TypeId) :
    ∃ v' w', (Builtin.append_ #[80, 80] ty #[v, .slice (some ⟨vb, 0, none⟩) 1 1]).run Try.prog w = .ok v' w' ∧ w'.ownsRow base 3 1 v' (n + 1) (xs ++ [p]) ∧ w.grownBy w' v.ownBlock ∧ (v'.ownBlock = v.ownBlock ∨ v'.ownBlock = some w.heap.size) := by
  obtain ⟨i0, hi, hz0, hz1, hz2⟩ := info_parts infoI
  obtain ⟨v1, w1, hr, h2, h3, _, h5⟩ := run_append_own_at (P := Try.prog) w base 80 ty 3 i0 (.int .i64 0) 1 8 Try.underlying80 hi hz0 hz1 hz2 rfl (by omega) v n xs hown ⟨vb, 0, none⟩ 1 1 [p] (by simp) (fun j u hu => by
    cases j with
    | zero => simp at hu; subst hu; exact hc
    | succ j => simp at hu) (by simpa using hp) (by simp only [maxLen]; omega) (by omega) hbase
  exact ⟨v1, w1, hr, h2, h3, h5⟩
/-- the numbers of the open files, in a row of the call's own -/
theorem files_walk {κ : Nat → Tag} {L : Lay} {m : MW} (w : World) (h : WAt κ L w m) :
    Calls Try.prog 34 #[pt L.p] w fun e w' => (∃ v, e = .returned v ∧ w'.ownsRow w.heap.size 3 1 v m.files.length (m.files.map fun f => .int .i64 f.num)) ∧ Below w.heap.size w w' := by
  have H := Aside0.mk h
  obtain ⟨⟨z0, z1⟩, _, _⟩ := h.head
  have hlen : m.files.length ≤ 20 := h.ok.fs
  have hrow : ∃ a cap, L.vf = .slice a m.files.length cap ∧ ∀ (w' : World), Below w.heap.size w w' → ∀ i (hi : i < m.files.length), ∃ g, a = some ⟨g, 0, none⟩ ∧ w'.cell? ⟨g, i, none⟩ = some (pt (L.fl (m.files[i]'hi).num)) := by
    rcases h.rowF with ⟨hv, hn⟩ | ⟨g, cap, hv, hc⟩
    · exact ⟨none, 0, by rw [hv, hn]; rfl, fun w' _ i hi => by rw [hn] at hi; exact absurd hi (Nat.not_lt_zero _)⟩
    · exact ⟨_, cap, hv, fun w' hb i hi => ⟨g, rfl, (hb.cell (World.block_lt_of_cell? w _ (hc i hi))).trans (hc i hi)⟩⟩
  obtain ⟨a, cap, hv, hc⟩ := hrow
  rw [hv] at z1
  have HC := Aside0.mk hc
  have hBB := Aside0.mk (Below.refl w.heap.size w)
  clear hc h
  unfold pt
  go_enter Try.func34, Try.ntmps34
  go_wp2
  go_loopw [3, 13] (fun o i wr => ∃ (k : Nat), k ≤ m.files.length ∧ i = .int .i64 k ∧ (∃ oa on oc, o = .slice oa on oc) ∧ Aside0 (Below w.heap.size w wr) ∧ Aside0 (wr.ownsRow w.heap.size 3 1 o k ((m.files.take k).map fun f => .int .i64 f.num))) (fun _ i _ => m.files.length - (intOf i).toNat)
  case atStart => exact ⟨0, Nat.zero_le _, rfl, ⟨_, _, _, rfl⟩, hBB, ⟨World.ownsRow_nil ..⟩⟩
  case round =>
    obtain ⟨k, hk, rfl, ⟨oa, on, oc, rfl⟩, HB, HO⟩ := hrel
    by_cases hlt : k < m.files.length
    · obtain ⟨g, rfl, hc1⟩ := HC.out wr HB.out k hlt
      have hf := ((H.out.below HB.out).fc (List.getElem_mem hlt)).1.1
      have hsn : (m.files.take (k + 1)).map (fun f => Value.int .i64 f.num) = (m.files.take k).map (fun f => Value.int .i64 f.num) ++ [.int .i64 (m.files[k]).num] := by
        rw [List.take_succ_eq_append_getElem hlt, List.map_append]; rfl
      have HSN := Aside0.mk hsn
      clear hsn
      unfold pt at hc1
      generalize m.files[k] = f at *
      have hvb := blk_new wr (.cells #[.int .i64 f.num] 3)
      have hlo : w.heap.size ≤ wr.heap.size := HB.out.size
      obtain ⟨v', w', hr, hown, hgr, ho⟩ := append_int _ k _ (wr.alloc (.cells #[.int .i64 f.num] 3)) w.heap.size (by simp; omega) (HO.out.alloc _) wr.heap.size (.int .i64 f.num) rfl ((blk_cell hvb 0).trans rfl) (by omega) 80
      have hB' : Below w.heap.size w w' := (HB.out.alloc hlo _).grown hgr (by simp; omega) (fun q hq => ((HO.out.alloc (.cells #[.int .i64 f.num] 3)).lt q hq).1)
      have hsh : ∃ a n c, v' = .slice a n c := by
        rcases hown.2 with ⟨h, _⟩ | ⟨g, c, cur, h, _⟩
        · exact ⟨_, _, _, h⟩
        · exact ⟨_, _, _, h⟩
      obtain ⟨a', n', c', rfl⟩ := hsh
      have HRUN := Aside0.mk hr
      have HOWN := Aside0.mk hown
      have HB2 := Aside0.mk hB'
      clear hr hown hgr ho hB' hvb
      go_wp2_with (at_builtin; refine Lib.wpList_append_run _ rfl _ _ _ _ rfl _ _ rfl rfl _ _ HRUN.out ?_)
      go_roundw
      case rel => exact ⟨k + 1, by omega, by go_num, ⟨_, _, _, rfl⟩, HB2, ⟨by rw [HSN.out]; exact HOWN.out⟩⟩
      case measure => simp [intOf]; omega
    · obtain rfl : k = m.files.length := by omega
      have ht : m.files.take m.files.length = m.files := List.take_of_length_le (Nat.le_refl _)
      rw [ht] at HO
      clear ht
      go_wp2
      go_ret
      exact ⟨⟨_, rfl, HO.out⟩, HB.out⟩
end Go.Proofs.Ytonmdifmlpfcpaa.PB
