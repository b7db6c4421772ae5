import Derived.StillTailTactics
import Derived.ArgAppend
import Derived.Below
import Derived.BigQuiet
import Derived.Deep.AppendLies
import Derived.Deep.CutBlock
import Derived.Deep.DeepCutAuto
import Derived.Deep.Draws
import Derived.Deep.LoopGhost
import Derived.Deep.OwnRows
import Derived.Deep.QuietTactic
import Derived.Deep.RegionHeld3
import Derived.KernelRfl
import Derived.Laws.Bits64b
import Derived.Laws.BitsLemmas
import Derived.Laws.BytesArg
import Derived.Laws.Externs
import Derived.Laws.IdiomCopy
import Derived.Laws.MakeOwn
import Derived.Laws.MathBits
import Derived.Laws.OwnMore
import Derived.Laws.Rows
import Derived.Laws.Slices
import Derived.Lib.AppendStr
import Derived.Lib.ConvBytes
import Derived.Maps.AppendAt
import Derived.OrdersHeld
import Derived.OwnWalk
import Derived.RowKit
import Derived.RowKit3
import Derived.Tactics
import Derived.Test.YtonmdifmlpfcpaaProg
import Derived.WalkKit
import Derived.WideLaws
import Derived.Lib.Walk
import Derived.Lib.SliceRun
import Derived.Lib.JoinLaws
import Derived.Lib.AppendZeros
import Derived.Lib.Overlaps
import Derived.Lib.AppendZerosOnto
import Derived.Shelf.RegionOpenPlain
import Derived.Shelf.Spec.SlicesInsert
import Derived.Deep.RegionLaw
import Derived.Lib.BufferRead
import Derived.Laws.IdiomStrings
import Derived.Test.YtonmdifmlpfcpaaWWords
import Derived.Test.YtonmdifmlpfcpaaWLast
import Derived.Test.YtonmdifmlpfcpaaWTab
import Derived.Test.YtonmdifmlpfcpaaWFour
import Derived.Test.YtonmdifmlpfcpaaWQPut
import Derived.Test.YtonmdifmlpfcpaaWApart
import Derived.Test.YtonmdifmlpfcpaaWArr
import Derived.Test.YtonmdifmlpfcpaaWZeros
import Derived.Test.YtonmdifmlpfcpaaWFoot
import Derived.Test.YtonmdifmlpfcpaaWKept
import Derived.Test.YtonmdifmlpfcpaaWShare
import Derived.Test.YtonmdifmlpfcpaaWN
import Derived.Test.YtonmdifmlpfcpaaWFootNe
import Derived.Test.YtonmdifmlpfcpaaWAt
import Derived.Test.YtonmdifmlpfcpaaWEqStruct
import Derived.Test.YtonmdifmlpfcpaaWRepsOne
import Derived.Test.YtonmdifmlpfcpaaWInv
import Derived.Test.YtonmdifmlpfcpaaWInvWords
import Derived.Test.YtonmdifmlpfcpaaWGuard
import Derived.Test.YtonmdifmlpfcpaaWNEv
import Derived.Test.YtonmdifmlpfcpaaWMore
import Derived.Test.YtonmdifmlpfcpaaNwE
namespace Go.Proofs.Ytonmdifmlpfcpaa.PB
open Go.RowKit Go.Proofs.YtonmdifmlpfcpaaW.PrintWords Go.Proofs.YtonmdifmlpfcpaaW.PrintLast Go.Proofs.YtonmdifmlpfcpaaW.PrintMore
set_option linter.unusedVariables false
set_option linter.unusedSimpArgs false
set_option maxRecDepth 100000
set_option maxHeartbeats 1000000
def RW.openF (m : RW) (k : Nat) : List Nat := (List.range k).filter fun i => (m.fs i).op
theorem RW.openF_succ (m : RW) (k : Nat) : m.openF (k + 1) = if (m.fs k).op = true then m.openF k ++ [k] else m.openF k := by
  unfold RW.openF
  rw [List.range_succ, List.filter_append]
  cases h : (m.fs k).op with
  | true => simp [h]
  | false => simp [h]
theorem RW.openF_len (m : RW) (k : Nat) : (m.openF k).length ≤ k := by
  have := List.length_filter_le (fun i => (m.fs i).op) (List.range k)
  rwa [List.length_range] at this
/-- the numbers of the open files, in a row of the call's own -/
theorem r_files {κ : Nat → Tag} {L : RLay} {m : RW} (w : World) (h : RAt κ L w m) :
    Calls Try.prog 35 #[pt L.p] w fun e w' => (∃ v, e = .returned v ∧ w'.ownsRow w.heap.size 3 1 v (m.openF 20).length ((m.openF 20).map fun (i : Nat) => .int .i64 ((i : Int) + 1))) ∧ Below w.heap.size w w' := by
  have H := Aside0.mk h
  have hlit := World.ownsRow_lit (base := w.heap.size) (e := 3) (size := 1) w #[] 0 (Nat.le_refl _) (Nat.zero_le _) rfl
  have HLIT := Aside0.mk hlit
  have hBB := Aside0.mk ((Below.refl w.heap.size w).alloc (Nat.le_refl _) (.cells #[] 3))
  have HH0 := Aside0.mk ((h.below hBB.out).head.1)
  clear h hlit
  have z2 := HH0.out.2.2
  unfold pt
  go_enter Try.func35, Try.ntmps35
  go_wp2
  go_loopw [3, 4] (fun o i wr => ∃ (k : Nat), k ≤ 20 ∧ i = .int .i64 k ∧ (∃ oa on oc, o = .slice oa on oc) ∧ Aside0 (Below w.heap.size w wr) ∧ Aside0 (wr.ownsRow w.heap.size 3 1 o (m.openF k).length ((m.openF k).map fun (i : Nat) => .int .i64 ((i : Int) + 1)))) (fun _ i _ => 20 - (intOf i).toNat)
  case atStart => exact ⟨0, Nat.zero_le _, rfl, ⟨_, _, _, rfl⟩, hBB, ⟨HLIT.out⟩⟩
  case round =>
    obtain ⟨k, hk, rfl, ⟨oa, on, oc, rfl⟩, HB, HO⟩ := hrel
    by_cases hlt : k < 20
    · have hA := H.out.below HB.out
      have y2 := hA.head.1.2.2
      have y3 := (hA.fc k hlt).1
      have HSN := Aside0.mk (m.openF_succ k)
      have hln := m.openF_len k
      clear hA z2
      cases hop : (m.fs k).op with
      | false =>
        rw [hop] at y3 HSN
        rw [if_neg (by decide)] at HSN
        clear hop
        go_wp2
        go_roundw
        case rel => exact ⟨k + 1, by omega, by go_num, ⟨_, _, _, rfl⟩, HB, ⟨by rw [HSN.out]; exact HO.out⟩⟩
        case measure => simp [intOf]; omega
      | true =>
        rw [hop] at y3 HSN
        rw [if_pos rfl] at HSN
        clear hop
        have hvb := blk_new wr (.cells #[.int .i64 ((k : Int) + 1)] 3)
        have hlo : w.heap.size ≤ wr.heap.size := HB.out.size
        obtain ⟨v', w', hr, hown, hgr, ho⟩ := append_int _ _ _ (wr.alloc (.cells #[.int .i64 ((k : Int) + 1)] 3)) w.heap.size (by simp; omega) (HO.out.alloc _) wr.heap.size (.int .i64 ((k : Int) + 1)) rfl ((blk_cell hvb 0).trans rfl) (by omega) 80
        have hB' : Below w.heap.size w w' := (HB.out.alloc hlo _).grown hgr (by simp; omega) (fun q hq => ((HO.out.alloc (.cells #[.int .i64 ((k : Int) + 1)] 3)).lt q hq).1)
        have hsh : ∃ a n c, v' = .slice a n c := by
          rcases hown.2 with ⟨h, _⟩ | ⟨g, c, cur, h, _⟩
          · exact ⟨_, _, _, h⟩
          · exact ⟨_, _, _, h⟩
        obtain ⟨a', n', c', rfl⟩ := hsh
        have HRUN := Aside0.mk hr
        have HOWN := Aside0.mk hown
        have HB2 := Aside0.mk hB'
        clear hr hown hgr ho hB' hvb
        go_wp2_with (at_builtin; refine Lib.wpList_append_run _ rfl _ _ _ _ rfl _ _ rfl rfl _ _ HRUN.out ?_)
        go_roundw
        case rel => exact ⟨k + 1, by omega, by go_num, ⟨_, _, _, rfl⟩, HB2, ⟨by rw [HSN.out, List.length_append, List.map_append]; exact HOWN.out⟩⟩
        case measure => simp [intOf]; omega
    · obtain rfl : k = 20 := by omega
      go_wp2
      go_ret
      exact ⟨⟨_, rfl, HO.out⟩, HB.out⟩
def showL : List ABk → List Bool → List ABk
  | b :: l, g :: r => if g = true then showL l r else b :: showL l r
  | _, _ => []
theorem showL_snoc {b : ABk} {g : Bool} : ∀ {l : List ABk} {r : List Bool}, l.length = r.length → showL (l ++ [b]) (r ++ [g]) = showL l r ++ (if g = true then [] else [b])
  | [], [], _ => by cases g <;> rfl
  | [], _ :: _, h => by simp at h
  | _ :: _, [], h => by simp at h
  | c :: l, d :: r, h => by
    have ih := showL_snoc (b := b) (g := g) (l := l) (r := r) (by simpa using h)
    show (if d = true then showL (l ++ [b]) (r ++ [g]) else c :: showL (l ++ [b]) (r ++ [g])) = (if d = true then showL l r else c :: showL l r) ++ _
    rw [ih]
    cases d with
    | true => rfl
    | false => rfl
theorem showL_len : ∀ (l : List ABk) (r : List Bool), (showL l r).length ≤ l.length
  | [], _ => by cases ‹List Bool› <;> exact Nat.le_refl _
  | _ :: _, [] => Nat.zero_le _
  | c :: l, d :: r => by
    have ih := showL_len l r
    unfold showL
    split
    · exact Nat.le_succ_of_le ih
    · exact Nat.succ_le_succ ih
def RW.shown (m : RW) (k : Nat) : List ABk := showL (m.list.take k) (m.gone.take k)
theorem RW.shown_succ {m : RW} (h : m.ok) (k : Nat) (hk : k < m.list.length) : m.shown (k + 1) = m.shown k ++ (if m.gone[k]'(by rw [h.gn]; exact hk) = true then [] else [m.list[k]]) := by
  have hg : k < m.gone.length := by rw [h.gn]; exact hk
  unfold RW.shown
  rw [List.take_succ_eq_append_getElem hk, List.take_succ_eq_append_getElem hg]
  exact showL_snoc (by rw [List.length_take, List.length_take, h.gn])
theorem RW.shown_len (m : RW) (k : Nat) : (m.shown k).length ≤ m.list.length := by
  have h1 := showL_len (m.list.take k) (m.gone.take k)
  rw [List.length_take] at h1
  unfold RW.shown
  omega
/-- all books of the reference, in a row of the call's own -/
theorem r_books {κ : Nat → Tag} {L : RLay} {m : RW} (w : World) (h : RAt κ L w m) :
    Calls Try.prog 32 #[pt L.p] w fun e w' => (∃ v, e = .returned v ∧ w'.ownsRow w.heap.size 26 3 v (m.shown m.list.length).length ((m.shown m.list.length).flatMap ABk.cl)) ∧ Below w.heap.size w w' := by
  have H := Aside0.mk h
  have hlit := World.ownsRow_lit (base := w.heap.size) (e := 26) (size := 3) w #[] 0 (Nat.le_refl _) (Nat.zero_le _) rfl
  have HLIT := Aside0.mk hlit
  have hBB := Aside0.mk ((Below.refl w.heap.size w).alloc (Nat.le_refl _) (.cells #[] 26))
  obtain ⟨a, cap, hv, hc1, hc2, hc⟩ := h.bc
  obtain ⟨a', cap', hv', hc1', hc2', hc'⟩ := h.gc
  have hA0 := (h.below hBB.out).head.1
  have HC : Aside0 (∀ W, Below w.heap.size w W → W.cell? ⟨L.p, 0, none⟩ = some (.slice a m.list.length cap) ∧ W.cell? ⟨L.p, 1, none⟩ = some (.slice a' m.list.length cap') ∧ ∀ i (hi : i < m.list.length), ∃ g g', a = some ⟨g, 0, none⟩ ∧ a' = some ⟨g', 0, none⟩ ∧ W.cell? ⟨g, i * 3, none⟩ = some (.string (m.list[i]'hi).name) ∧ W.cell? ⟨g, i * 3 + 1, none⟩ = some (.string (m.list[i]'hi).text) ∧ W.cell? ⟨g, i * 3 + 2, none⟩ = some (.bool (m.list[i]'hi).write) ∧ W.cell? ⟨g', i, none⟩ = some (.bool (m.gone[i]'(by rw [H.out.ok.gn]; exact hi)))) := ⟨fun W hb => by
    have hh := (H.out.below hb).head.1
    rw [hv] at hh
    rw [hv', H.out.ok.gn] at hh
    refine ⟨hh.1, hh.2.1, fun i hi => ?_⟩
    obtain ⟨g, rfl, _, x0, x1, x2, _⟩ := hc i hi
    obtain ⟨g', rfl, _, y0, _⟩ := hc' i (by rw [H.out.ok.gn]; exact hi)
    exact ⟨g, g', rfl, rfl, (hb.cell (World.block_lt_of_cell? _ _ x0)).trans x0, (hb.cell (World.block_lt_of_cell? _ _ x1)).trans x1, (hb.cell (World.block_lt_of_cell? _ _ x2)).trans x2, (hb.cell (World.block_lt_of_cell? _ _ y0)).trans y0⟩⟩
  have hlen := h.ok.ls
  have z0 : (w.alloc (.cells #[] 26)).cell? ⟨L.p, 0, none⟩ = some (.slice a m.list.length cap) := (HC.out _ hBB.out).1
  have hcm : cap ≤ 9223372036854775807 := hc2
  have hcm' : cap' ≤ 9223372036854775807 := hc2'
  clear h hlit hA0 hc hc' hv hv' hc2 hc2'
  unfold pt
  go_enter Try.func32, Try.ntmps32
  go_wp2
  go_loopw [3, 4] (fun o i wr => ∃ (k : Nat), k ≤ m.list.length ∧ i = .int .i64 k ∧ (∃ oa on oc, o = .slice oa on oc) ∧ Aside0 (Below w.heap.size w wr) ∧ Aside0 (wr.ownsRow w.heap.size 26 3 o (m.shown k).length ((m.shown k).flatMap ABk.cl))) (fun _ i _ => m.list.length - (intOf i).toNat)
  case atStart => exact ⟨0, Nat.zero_le _, rfl, ⟨_, _, _, rfl⟩, hBB, ⟨by rw [show m.shown 0 = [] by unfold RW.shown; rw [List.take_zero, List.take_zero]; rfl]; exact HLIT.out⟩⟩
  case round =>
    obtain ⟨k, hk, rfl, ⟨oa, on, oc, rfl⟩, HB, HO⟩ := hrel
    clear z0
    obtain ⟨y0, y1, hcc⟩ := HC.out wr HB.out
    by_cases hlt : k < m.list.length
    · obtain ⟨g, g', rfl, rfl, x0, x1, x2, x3⟩ := hcc k hlt
      have HSN := Aside0.mk (RW.shown_succ H.out.ok k hlt)
      have hln := m.shown_len k
      have hb : ∃ b, m.list[k] = b := ⟨_, rfl⟩
      have hgg : ∃ b, m.gone[k]'(by rw [H.out.ok.gn]; exact hlt) = b := ⟨_, rfl⟩
      obtain ⟨b, hb⟩ := hb
      obtain ⟨gg, hgg⟩ := hgg
      rw [hb] at x0 x1 x2 HSN
      rw [hgg] at x3 HSN
      clear hb hgg hcc
      cases gg with
      | true =>
        rw [if_pos rfl, List.append_nil] at HSN
        go_wp2
        go_roundw
        case rel => exact ⟨k + 1, by omega, by go_num, ⟨_, _, _, rfl⟩, HB, ⟨by rw [HSN.out]; exact HO.out⟩⟩
        case measure => simp [intOf]; omega
      | false =>
        rw [if_neg (by decide)] at HSN
        have hvb := blk_new wr (.cells #[.string b.name, .string b.text, .bool b.write] 26)
        have hlo : w.heap.size ≤ wr.heap.size := HB.out.size
        obtain ⟨v', w', hr, hown, hgr, ho⟩ := append_book _ _ _ (wr.alloc (.cells #[.string b.name, .string b.text, .bool b.write] 26)) w.heap.size (by simp; omega) (HO.out.alloc _) wr.heap.size _ _ _ rfl rfl rfl hvb (by omega) 22
        have hB' : Below w.heap.size w w' := (HB.out.alloc hlo _).grown hgr (by simp; omega) (fun q hq => ((HO.out.alloc (.cells #[.string b.name, .string b.text, .bool b.write] 26)).lt q hq).1)
        have hsh : ∃ a n c, v' = .slice a n c := by
          rcases hown.2 with ⟨h, _⟩ | ⟨g, c, cur, h, _⟩
          · exact ⟨_, _, _, h⟩
          · exact ⟨_, _, _, h⟩
        obtain ⟨a', n', c', rfl⟩ := hsh
        have HRUN := Aside0.mk hr
        have HOWN := Aside0.mk hown
        have HB2 := Aside0.mk hB'
        clear hr hown hgr ho hB' hvb
        go_wp2_with (at_builtin; refine Lib.wpList_append_run _ rfl _ _ _ _ rfl _ _ rfl rfl _ _ HRUN.out ?_)
        go_roundw
        case rel => exact ⟨k + 1, by omega, by go_num, ⟨_, _, _, rfl⟩, HB2, ⟨by rw [HSN.out, List.length_append, List.flatMap_append]; exact HOWN.out⟩⟩
        case measure => simp [intOf]; omega
    · obtain rfl : k = m.list.length := by omega
      go_wp2
      go_ret
      exact ⟨⟨_, rfl, HO.out⟩, HB.out⟩
def RW.posn (m : RW) (n : Int) : Nat × Nat × Nat × Nat := if m.st n = 0 then
    ((posC ((m.text (n - 1).toNat).data.toList.take (min (m.fs (n - 1).toNat).pos (m.text (n - 1).toNat).size)) (1, 1, 1)).1, (posC ((m.text (n - 1).toNat).data.toList.take (min (m.fs (n - 1).toNat).pos (m.text (n - 1).toNat).size)) (1, 1, 1)).2.1, (posC ((m.text (n - 1).toNat).data.toList.take (min (m.fs (n - 1).toNat).pos (m.text (n - 1).toNat).size)) (1, 1, 1)).2.2, 0) else (0, 0, 0, m.st n)
theorem RW.ok.text {m : RW} (h : m.ok) {k : Nat} (hk : k < 20) (ho : (m.fs k).op = true) : (m.text k).size ≤ 1048576 := by
  have hlt := h.bk k hk ho
  rw [RW.text_at hlt]
  exact h.tx _ (List.getElem_mem hlt)
theorem r_Position {κ : Nat → Tag} {L : RLay} {m : RW} (n : Int) (w : World) (h : RAt κ L w m) (p l c e : Nat) (hr : m.posn n = (p, l, c, e)) : Calls Try.prog 36 #[pt L.p, .int .i64 n] w fun x w' => x = .returned (.tuple #[.int .i64 p, .int .i64 l, .int .i64 c, .int .i64 e]) ∧ Rd w w' := by
  have HS := Aside0.mk (r_state n w h _ rfl)
  have H := Aside0.mk h
  unfold RW.posn at hr
  unfold pt at *
  by_cases h0 : m.st n = 0
  · rw [if_pos h0] at hr
    rw [h0] at HS
    obtain ⟨k, hk, rfl, ho⟩ := RW.st_open h0
    rw [show ((k : Int) + 1 - 1).toNat = k by omega] at hr
    have HT := Aside0.mk (fun (w' : World) (hb : Below w.heap.size w w') => r_text k w' (h.below hb) hk ho)
    have hts := h.ok.text hk ho
    have HC : Aside0 (∀ w', Rd w w' → w'.cell? ⟨L.p, 2, none⟩ = some (.slice (some ⟨L.o, 0, none⟩) 20 20) ∧ w'.cell? ⟨L.o, k * 5 + 2, none⟩ = some (.int .i64 (m.fs k).pos)) := ⟨fun w' hr => ⟨(h.below hr.below).head.1.2.2, ((h.below hr.below).fc k hk).2.2.1⟩⟩
    have hpb := h.ok.pos k hk
    unfold pt at HT
    clear h h0 ho
    generalize hT : m.text k = t at *
    generalize (m.fs k).pos = q at *
    have HP := Aside0.mk (fun (w' : World) => r_place q t w')
    have HN := Aside0.mk (fun (w' : World) => r_position t (min q t.size) w' (Nat.min_le_right _ _) hts)
    simp only [Prod.mk.injEq] at hr
    obtain ⟨h1, h2, h3, rfl⟩ := hr
    rw [h1, h2, h3] at HN
    clear hT h1 h2 h3
    generalize min q t.size = u at *
    go_enter Try.func36, Try.ntmps36
    go_wp2_with (go_at_call 60; refine HS.out.mono ?_; rintro e w' ⟨rfl, rfl⟩)
    refine (HT.out _ (by first | exact Below.refl _ _ | exact below_drew1 (Below.refl _ _) | exact pw_below_drewN (Below.refl _ _) _)).mono ?_
    rintro e w1 ⟨rfl, hr1⟩
    obtain ⟨y2, y3⟩ := HC.out w1 (by first | exact hr1 | exact (Rd.drew _).trans hr1)
    clear HT HS
    go_wp2_with (first | (go_at_call 63; refine (HP.out _).mono ?_; rintro e w2 ⟨rfl, rfl⟩) | (go_at_call 62; refine (HN.out _).mono ?_; rintro e w2 ⟨rfl, rfl⟩))
    refine bodyPost_ret (v := .tuple #[.int .i64 p, .int .i64 l, .int .i64 c, .int .i64 0]) (by simp [results, Try.results36, go_sem]) rfl ⟨rfl, by first | exact hr1 | exact (Rd.drew _).trans hr1⟩
  · rw [if_neg h0] at hr
    simp only [Prod.mk.injEq] at hr
    obtain ⟨rfl, rfl, rfl, rfl⟩ := hr
    clear h
    generalize m.st n = E at *
    have hs0 : ¬ (E : Int) = 0 := by omega
    go_enter Try.func36, Try.ntmps36
    go_wp2_with (go_at_call 60; refine HS.out.mono ?_; rintro e w' ⟨rfl, rfl⟩)
    refine bodyPost_ret (v := .tuple #[.int .i64 0, .int .i64 0, .int .i64 0, .int .i64 E]) (by simp [results, Try.results36, go_sem]) rfl ⟨rfl, Rd.refl _⟩
def RW.endB (m : RW) (k : Nat) (ev : Int) : Bool := decide ((m.text k).size ≤ (m.fs k).pos) || decide (ev = 1 ∧ ((m.text k).data.toList.getD (m.fs k).pos 0).toNat = 12 ∨ ev = 2 ∧ (((m.text k).data.toList.getD (m.fs k).pos 0).toNat = 12 ∨ ((m.text k).data.toList.getD (m.fs k).pos 0).toNat = 10))
def RW.ended (m : RW) (n ev : Int) : Bool × Nat := if m.ev n ev 3 = 0 then (m.endB (n - 1).toNat ev, 0) else (false, m.ev n ev 3)
theorem r_ended {κ : Nat → Tag} {L : RLay} {m : RW} (n ev : Int) (w : World) (h : RAt κ L w m) (b : Bool) (e : Nat) (hr : m.ended n ev = (b, e)) : Calls Try.prog 39 #[pt L.p, .int .i64 n, .int .i64 ev] w fun x w' => x = .returned (.tuple #[.bool b, .int .i64 e]) ∧ Rd w w' := by
  have HE := Aside0.mk (r_event n ev 3 w h (m.ev n ev 3) rfl)
  have H := Aside0.mk h
  unfold RW.ended at hr
  unfold pt at *
  by_cases h0 : m.ev n ev 3 = 0
  · rw [if_pos h0] at hr
    rw [h0] at HE
    obtain ⟨hst, he0, he3⟩ := RW.ev_ok h0
    obtain ⟨k, hk, rfl, ho⟩ := RW.st_open hst
    rw [show ((k : Int) + 1 - 1).toNat = k by omega] at hr
    have HT := Aside0.mk (fun (w' : World) (hb : Below w.heap.size w w') => r_text k w' (h.below hb) hk ho)
    have hts := h.ok.text hk ho
    have z1 := h.head.1.2.2
    have z2 := (h.fc k hk).2.2.1
    have HC : Aside0 (∀ w', Rd w w' → w'.cell? ⟨L.p, 2, none⟩ = some (.slice (some ⟨L.o, 0, none⟩) 20 20) ∧ w'.cell? ⟨L.o, k * 5 + 2, none⟩ = some (.int .i64 (m.fs k).pos)) := ⟨fun w' hr => ⟨(h.below hr.below).head.1.2.2, ((h.below hr.below).fc k hk).2.2.1⟩⟩
    have hpb := h.ok.pos k hk
    unfold RW.endB at hr
    unfold pt at HT
    clear h h0 ho hst
    generalize hT : m.text k = t at *
    generalize (m.fs k).pos = q at *
    obtain ⟨hb, rfl⟩ := Prod.mk.inj hr
    clear hT hr
    go_enter Try.func39, Try.ntmps39
    go_wp2_with (go_at_call 64; refine HE.out.mono ?_; rintro e w' ⟨rfl, rfl⟩)
    go_quiet ((go_at_call 61; exact quiet_rd (HT.out _ (by first | exact pw_below_drewN (Below.refl _ _) _ | exact Below.refl _ _))))
    by_cases hend : t.size ≤ q
    · obtain rfl : true = b := by rw [← hb, decide_eq_true hend]; rfl
      have hd : decide ((t.size : Int) ≤ (q : Int)) = true := decide_eq_true (by omega)
      clear hb
      go_wp2
      go_ret2
      exact ⟨rfl, ⟨_, rfl⟩⟩
    · have hlt : q < t.size := by omega
      have hd : decide ((t.size : Int) ≤ (q : Int)) = false := decide_eq_false (by omega)
      rw [decide_eq_false hend, Bool.false_or, getD_byte t q hlt] at hb
      have hev : ev = 0 ∨ ev = 1 ∨ ev = 2 := by omega
      by_cases h12 : t[q].toNat = 12
      · have h12' : (t[q].toNat : Int) = 12 := by omega
        rcases hev with rfl | rfl | rfl
        · obtain rfl : false = b := by rw [← hb]; simp
          clear hb h12
          go_wp2
          go_ret2
          exact ⟨rfl, ⟨_, rfl⟩⟩
        · obtain rfl : true = b := by rw [← hb]; simp [h12]
          clear hb h12
          go_wp2
          go_ret2
          exact ⟨rfl, ⟨_, rfl⟩⟩
        · obtain rfl : true = b := by rw [← hb]; simp [h12]
          clear hb h12
          go_wp2
          go_ret2
          exact ⟨rfl, ⟨_, rfl⟩⟩
      · have b12 : ((t[q].toNat : Int) == 12) = false := beq_eq_false_iff_ne.2 (by omega)
        by_cases h10 : t[q].toNat = 10
        · have h10' : (t[q].toNat : Int) = 10 := by omega
          rcases hev with rfl | rfl | rfl
          · obtain rfl : false = b := by rw [← hb]; simp
            clear hb h12 h10
            go_wp2
            go_ret2
            exact ⟨rfl, ⟨_, rfl⟩⟩
          · obtain rfl : false = b := by rw [← hb]; simp [h12]
            clear hb h12 h10
            go_wp2
            go_ret2
            exact ⟨rfl, ⟨_, rfl⟩⟩
          · obtain rfl : true = b := by rw [← hb]; simp [h10]
            clear hb h12 h10
            go_wp2
            go_ret2
            exact ⟨rfl, ⟨_, rfl⟩⟩
        · have b10 : ((t[q].toNat : Int) == 10) = false := beq_eq_false_iff_ne.2 (by omega)
          obtain rfl : false = b := by rw [← hb]; simp [h12, h10]
          clear hb h12 h10
          rcases hev with rfl | rfl | rfl
          · go_wp2
            go_ret2
            exact ⟨rfl, ⟨_, rfl⟩⟩
          · go_wp2
            go_ret2
            exact ⟨rfl, ⟨_, rfl⟩⟩
          · go_wp2
            go_ret2
            exact ⟨rfl, ⟨_, rfl⟩⟩
  · rw [if_neg h0] at hr
    obtain ⟨rfl, rfl⟩ := Prod.mk.inj hr
    clear h
    generalize m.ev n ev 3 = E at *
    have hs0 : ¬ (E : Int) = 0 := by omega
    go_enter Try.func39, Try.ntmps39
    go_wp2_with (go_at_call 64; refine HE.out.mono ?_; rintro e w' ⟨rfl, rfl⟩)
    go_ret2
    exact ⟨rfl, Rd.refl _⟩
def flK : Array Value := #[.bool false, .bool true, .bool true, .bool false, .bool false, .bool true]
def FreshPost (b : Nat) (w : World) (e : Ending) (w' : World) : Prop := ∃ fb, e = .returned (.agg #[.bool true, .int .i64 b, .int .i64 0, .int .i64 0, .slice (some ⟨fb, 0, none⟩) 6 6]) ∧ w.heap.size ≤ fb ∧ fb < w'.heap.size ∧ w'.heap[fb]? = some (.cells flK 4 (0, 0)) ∧ Below w.heap.size w w'
theorem r_fresh (b : Nat) (w : World) : Calls Try.prog 30 #[.int .i64 b] w (FreshPost b w) := by
  go_enter Try.func30, Try.ntmps30
  go_wp2
  refine bodyPost_ret (v := .agg #[.bool true, .int .i64 b, .int .i64 0, .int .i64 0, .slice (some ⟨w.heap.size + 1, 0, none⟩) 6 6]) (by simp [results, Try.results30, go_sem]) rfl ⟨w.heap.size + 1, rfl, by omega, by simp, ?_, ?_⟩
  · have h := blk_new (w.alloc (.cells #[.bool true, .int .i64 b, .int .i64 0, .int .i64 0, .slice (some ⟨w.heap.size + 1, 0, none⟩) 6 6] 76)) (.cells flK 4)
    rw [show (w.alloc (.cells #[.bool true, .int .i64 b, .int .i64 0, .int .i64 0, .slice (some ⟨w.heap.size + 1, 0, none⟩) 6 6] 76)).heap.size = w.heap.size + 1 by simp] at h
    exact h
  · exact ((Below.refl _ _).alloc (Nat.le_refl _) _).alloc (by simp) _
theorem oneCl (bs : List ABk) : ∀ u ∈ bs.flatMap ABk.cl, u.oneCell' = true := by
  intro u hu
  obtain ⟨b, _, hb⟩ := List.mem_flatMap.1 hu
  simp only [ABk.cl, List.mem_cons, List.not_mem_nil, or_false] at hb
  rcases hb with rfl | rfl | rfl <;> rfl
theorem flat_len {α : Type} {f : α → List Value} {n : Nat} (hf : ∀ a, (f a).length = n) (l : List α) : (l.flatMap f).length = l.length * n := by
  induction l with
  | nil => simp
  | cons a r ih => rw [List.flatMap_cons, List.length_append, hf, ih, List.length_cons, Nat.add_mul]; omega
/-- all books of an array are appended -/
theorem append_all (bs : List ABk) (a : Option Addr) (cap : Nat) (w : World) (hA : AAt w a bs) (ha : a = none → bs = [] ∧ cap = 0) (v : Value) (n : Nat) (xs : List Value) (base : Nat) (hbase : base ≤ w.heap.size) (hown : w.ownsRow base 26 3 v n xs) (hn : n + bs.length ≤ 2000) (ty : TypeId) :
    ∃ v' w', (Builtin.append_ #[22, 22] ty #[v, .slice a bs.length cap]).run Try.prog w = .ok v' w' ∧ w'.ownsRow base 26 3 v' (n + bs.length) (xs ++ bs.flatMap ABk.cl) ∧ w.grownBy w' v.ownBlock ∧ (v'.ownBlock = v.ownBlock ∨ v'.ownBlock = some w.heap.size) := by
  obtain ⟨i0, hi, hz0, hz1, hz2⟩ := info_parts infoA
  cases a with
  | none =>
    obtain ⟨rfl, rfl⟩ := ha rfl
    refine ⟨v, w, run_append_owned_none (P := Try.prog) w base 22 ty 26 i0 3 Try.underlying22 hi v n xs hown, by simpa using hown, ?_, .inl rfl⟩
    exact ⟨rfl, rfl, rfl, Nat.le_refl _, fun _ _ _ => rfl⟩
  | some a =>
    obtain ⟨v1, w1, hr, h2, h3, _, h5⟩ := run_append_own_at (P := Try.prog) w base 22 ty 26 i0 _ 3 40 Try.underlying22 hi hz0 hz1 hz2 rfl (by omega) v n xs hown a bs.length cap (bs.flatMap ABk.cl) (flat_len (f := ABk.cl) (n := 3) (fun _ => rfl) bs) (fun j u hu => by
      have hlt : j < bs.length * 3 := by
        have := (List.getElem?_eq_some_iff.1 hu).1
        rwa [flat_len (f := ABk.cl) (n := 3) (fun _ => rfl)] at this
      obtain ⟨i, r, hr, rfl⟩ : ∃ i r, r < 3 ∧ j = i * 3 + r := ⟨j / 3, j % 3, Nat.mod_lt _ (by decide), by omega⟩
      have hi : i < bs.length := by omega
      rw [flat_get (f := ABk.cl) (n := 3) (fun _ => rfl) bs i hi r hr] at hu
      obtain ⟨g, o, hao, h0, h1, h2⟩ := hA i hi
      obtain rfl := Option.some.inj hao
      rw [Addr.add_lit]
      show w.cell? ⟨g, o + (i * 3 + r), none⟩ = some u
      have : r = 0 ∨ r = 1 ∨ r = 2 := by omega
      rcases this with rfl | rfl | rfl
      · rw [← hu]; exact h0
      · rw [← hu]; exact h1
      · rw [← hu]; exact h2) (oneCl bs) (by simp only [maxLen]; omega) (by omega) hbase
    exact ⟨v1, w1, hr, h2, h3, h5⟩
def checkAll : List ABk → List ABk → Nat
  | _, [] => 0
  | pre, x :: r => match checkR x pre with
    | 0 => checkAll (pre ++ [x]) r
    | e + 1 => e + 1
def freshR (b : Nat) : RFl := ⟨true, b, 0, 0, fun i => decide (i = 1 ∨ i = 2 ∨ i = 5)⟩
def RW.setF (m : RW) (i : Nat) (f : RFl) : RW := { m with fs := fun j => if j = i then f else m.fs j }
def RW.addB (m : RW) (x : ABk) : RW := { m with list := m.list ++ [x], gone := m.gone ++ [false] }
def RW.std (m : RW) (i : Nat) (s : ByteArray) : RW :=
  match m.find s with
  | some b => m.setF i (freshR b)
  | none => (m.addB ⟨s, ⟨#[]⟩, decide (0 < i)⟩).setF i (freshR m.list.length)
def RW.stdK : Nat → Nat → RW → RW
  | 0, _, m => m
  | n + 1, k, m => RW.stdK n (k + 1) (m.std k (nameAt k))
def rstart (bs : List ABk) : RW := ⟨bs, bs.map fun _ => false, fun _ => ⟨false, 0, 0, 0, fun _ => false⟩⟩
def RW.outF (m : RW) : RW := m.setF 1 { m.fs 1 with mood := 2, pos := (m.text 1).size }
def rnewR (bs : List ABk) : RW × Nat :=
  if 64 < bs.length then (rstart [], 3) else
  match checkAll [] bs with
  | 0 => ((RW.stdK 3 0 (rstart bs)).outF, 0)
  | e + 1 => (rstart [], e + 1)
def RNewPost (w : World) (M : RW) (E : Nat) (e : Ending) (w' : World) : Prop :=
  (E = 0 ∧ ∃ κ L, e = .returned (.tuple #[pt L.p, .int .i64 0]) ∧ RSt κ0 w κ L w' M) ∨ (E ≠ 0 ∧ e = .returned (.tuple #[.pointer none, .int .i64 E]) ∧ Below w.heap.size w w')
theorem infoFi : (Try.prog.info? 76).map (fun i => (i.zero, i.size, i.bytes)) = some (some (.agg #[.bool false, .int .i64 0, .int .i64 0, .int .i64 0, .slice none 0 0]), 5, 56) := by kernel_rfl
theorem infoBo : (Try.prog.info? 4).map (fun i => (i.zero, i.size, i.bytes)) = some (some (.bool false), 1, 1) := by kernel_rfl
theorem wp_make_any {P : Program} (w : World) {o : Oper} {a : Act} {K : Act → World → Prop} {Q : Exit → Act → World → Prop} (l c : Operand) (t : TypeId) (hop : o.op = Op.makeSlice t l c) (vl vc : Value) (hl : a.eval l = vl) (hc : a.eval c = vc) (v' : Value) (w' : World)
    (hr : (Instr.makeSlice t vl vc).run P w = .ok v' w') (h : K (a.put o.dst v') w') : o.wp P a w K Q := by
  unfold Oper.wp
  simp [execOp, hop, hl, hc, hr, Result.andThen]
  exact h
def zFi : Array Value := madeCells #[.bool false, .int .i64 0, .int .i64 0, .int .i64 0, .slice none 0 0] 100
theorem make20 (w : World) : (Instr.makeSlice 70 (.int .i64 20) (.int .i64 20)).run Try.prog w = .ok (.slice (some ⟨w.heap.size, 0, none⟩) 20 20) (w.alloc (.cells zFi 76)) := by
  obtain ⟨i0, hi, hz0, hz1, hz2⟩ := info_parts infoFi
  have h := run_make (P := Try.prog) w 70 76 i0 _ Try.underlying70 hi hz0 .i64 .i64 20 20 (by decide) (by decide) (by rw [hz2]; decide) (by decide)
  rw [hz1] at h
  exact h
theorem zFi_at (i j : Nat) (hi : i < 20) (hj : j < 5) : zFi[i * 5 + j]? = #[Value.bool false, .int .i64 0, .int .i64 0, .int .i64 0, .slice none 0 0][j]? := by
  have hlt : i * 5 + j < 100 := by omega
  unfold zFi madeCells
  rw [Array.getElem?_map, Array.getElem?_range, if_pos hlt]
  have : (i * 5 + j) % 5 = j := by omega
  have hj' : j = 0 ∨ j = 1 ∨ j = 2 ∨ j = 3 ∨ j = 4 := by omega
  simp only [Option.map_some, List.size_toArray, List.length_cons, List.length_nil, Nat.zero_add, this]
  rcases hj' with rfl | rfl | rfl | rfl | rfl <;> rfl
theorem ownsRow_lo {w : World} {base size n : Nat} {e : TypeId} {v : Value} {xs : List Value} (h : w.ownsRow base e size v n xs) : w.ownsRow 0 e size v n xs := by
  refine ⟨h.1, ?_⟩
  rcases h.2 with h | ⟨g, cap, cur, h1, _, r⟩
  · exact .inl h
  · exact .inr ⟨g, cap, cur, h1, Nat.zero_le _, r⟩
structure Rs0 (w wx : World) (p : Nat) (v : Value) (o : Nat) (bs : List ABk) : Prop where
  bl : Below w.heap.size w wx
  row : wx.ownsRow w.heap.size 26 3 v bs.length (bs.flatMap ABk.cl)
  vg : ∀ g, v.ownBlock = some g → g ≠ o ∧ g ≠ p
  ho : wx.heap[o]? = some (.cells zFi 76 (0, 0))
  lo : w.heap.size ≤ o
  op : o ≠ p
  hp : wx.heap[p]? = some (.cells #[v, .slice none 0 0, .slice (some ⟨o, 0, none⟩) 20 20] 73 (0, 0))
  lp : w.heap.size ≤ p
theorem rs0_mk {w W : World} {v : Value} {o : Nat} {bs : List ABk} (hb : Below w.heap.size w W) (hr : W.ownsRow w.heap.size 26 3 v bs.length (bs.flatMap ABk.cl)) (hv : ∀ g, v.ownBlock = some g → g ≠ o) (ho : W.heap[o]? = some (.cells zFi 76 (0, 0))) (lo : w.heap.size ≤ o) :
    Rs0 w (W.alloc (.cells #[v, .slice none 0 0, .slice (some ⟨o, 0, none⟩) 20 20] 73)) W.heap.size v o bs := by
  have hol : o < W.heap.size := blk_lt ho
  exact ⟨hb.alloc hb.size _, hr.alloc _, fun g hg => ⟨hv g hg, by have := (hr.lt g hg).2; omega⟩, blk_alloc ho _, lo, by omega, blk_new _ _, hb.size⟩
theorem rs0_done {w wx : World} {p : Nat} {v : Value} {o : Nat} {bs : List ABk} (h : Rs0 w wx p v o bs) (hlen : bs.length ≤ 64) (htx : ∀ b ∈ bs, b.text.size ≤ 1048576) {w' : World} {q : Nat} (hq : q = wx.heap.size)
    (hg : w'.ownsRow wx.heap.size 4 1 (.slice (some ⟨q, 0, none⟩) bs.length bs.length) bs.length (madeCells #[.bool false] bs.length).toList) (hgr : wx.grownBy w' none) :
    RSt κ0 w (fun k => if k = p then .wd else if k = o then .rf else if v.ownBlock = some k then .rb else if k = q then .bk 0 else .no) ⟨p, v, .slice (some ⟨q, 0, none⟩) bs.length bs.length, o, fun _ => 0⟩ (w'.setCell ⟨p, 1, none⟩ (.slice (some ⟨q, 0, none⟩) bs.length bs.length)) (rstart bs) := by
  subst hq
  have hpl : p < wx.heap.size := blk_lt h.hp
  have hol : o < wx.heap.size := blk_lt h.ho
  have hvl : ∀ g, v.ownBlock = some g → g < wx.heap.size := fun g hg => (h.row.lt g hg).2
  have hkeep : ∀ k, k < wx.heap.size → w'.heap[k]? = wx.heap[k]? := fun k hk => hgr.block k hk (by simp)
  have hql : wx.heap.size < w'.heap.size := (hg.lt _ rfl).2
  have hp' : w'.heap[p]? = some (.cells #[v, .slice none 0 0, .slice (some ⟨o, 0, none⟩) 20 20] 73 (0, 0)) := (hkeep p hpl).trans h.hp
  have hset := blk_put hp' 1 (.slice (some ⟨wx.heap.size, 0, none⟩) bs.length bs.length) rfl
  have hoth : ∀ k, k ≠ p → (w'.setCell ⟨p, 1, none⟩ (.slice (some ⟨wx.heap.size, 0, none⟩) bs.length bs.length)).heap[k]? = w'.heap[k]? := fun k hk => Below.heap_setCell _ _ _ _ hk
  have hss : (w'.setCell ⟨p, 1, none⟩ (.slice (some ⟨wx.heap.size, 0, none⟩) bs.length bs.length)).heap.size = w'.heap.size := by simp [World.setCell]
  have hmade : (madeCells #[.bool false] bs.length).toList = (rstart bs).gone.map .bool := by
    rw [toList_madeCells_one]
    refine (List.eq_replicate_iff.2 ⟨by simp [rstart], fun x hx => ?_⟩).symm
    obtain ⟨y, hy, rfl⟩ := List.mem_map.1 hx
    obtain ⟨b, _, rfl⟩ := List.mem_map.1 hy
    rfl
  have hgl : (rstart bs).gone.length = bs.length := by simp [rstart]
  refine ⟨⟨⟨by show bs.length ≤ 1000; omega, hgl, htx, (fun i _ hi => by cases hi), fun i _ => Nat.zero_le _⟩, if_pos rfl, hset, ?_, ?_, ?_, ?_, ?_, ?_, ?_, (fun i _ hi => by cases hi), (fun i _ hi => by cases hi), ?_⟩, ?_⟩
  · exact ownsRow_lo (ownsRow_of_block h.row fun g hg => (hoth g (h.vg g hg).2).trans (hkeep g (hvl g hg)))
  · intro g hg
    show (if g = p then Tag.wd else if g = o then .rf else if v.ownBlock = some g then .rb else _) = .rb
    rw [if_neg (h.vg g hg).2, if_neg (h.vg g hg).1, if_pos hg]
  · rw [hgl, ← hmade]
    exact ownsRow_lo (ownsRow_of_block hg fun g hg => hoth g (by
      obtain rfl : wx.heap.size = g := by simpa [Value.ownBlock] using hg
      omega))
  · intro g hg
    obtain rfl : wx.heap.size = g := by simpa [Value.ownBlock] using hg
    show (if wx.heap.size = p then Tag.wd else if wx.heap.size = o then .rf else if v.ownBlock = some wx.heap.size then .rb else if wx.heap.size = wx.heap.size then .bk 0 else .no) = .bk 0
    rw [if_neg (by omega), if_neg (by omega), if_neg (fun e => by have := hvl _ e; omega), if_pos rfl]
  · show (if o = p then Tag.wd else if o = o then .rf else _) = .rf
    rw [if_neg h.op, if_pos rfl]
  · intro i hi j hj
    have h1 : (w'.setCell ⟨p, 1, none⟩ (.slice (some ⟨wx.heap.size, 0, none⟩) bs.length bs.length)).heap[o]? = some (.cells zFi 76 (0, 0)) := (hoth o h.op).trans ((hkeep o hol).trans h.ho)
    show (w'.setCell ⟨p, 1, none⟩ (.slice (some ⟨wx.heap.size, 0, none⟩) bs.length bs.length)).cell? ⟨o, i * 5 + j, none⟩ = _
    rw [blk_cell h1, zFi_at i j hi hj]
    have hj' : j = 0 ∨ j = 1 ∨ j = 2 ∨ j = 3 ∨ j = 4 := by omega
    rcases hj' with rfl | rfl | rfl | rfl | rfl <;> rfl
  · exact ⟨zFi, (hoth o h.op).trans ((hkeep o hol).trans h.ho)⟩
  · intro k hk
    rw [hss] at hk
    show (if k = p then Tag.wd else if k = o then .rf else if v.ownBlock = some k then .rb else if k = wx.heap.size then .bk 0 else .no) = .no
    rw [if_neg (by omega), if_neg (by omega), if_neg (fun e => by have := hvl _ e; omega), if_neg (by omega)]
  · have hB : Below w.heap.size w (w'.setCell ⟨p, 1, none⟩ (.slice (some ⟨wx.heap.size, 0, none⟩) bs.length bs.length)) := below_set (h.bl.grown hgr (by exact Nat.le_trans h.bl.size (Nat.le_refl _)) (fun q hq => by cases hq)) h.lp
    refine ⟨hB.os, hB.tape, hB.output, hB.size, fun k hk _ => hB.block k hk, fun k hk => ?_⟩
    show (if k = p then Tag.wd else if k = o then .rf else if v.ownBlock = some k then .rb else if k = wx.heap.size then .bk 0 else .no) = .no ↔ _
    rw [if_neg (by have := h.lp; omega), if_neg (by have := h.lo; omega), if_neg (fun e => by have := (h.row.lt k e).1; omega), if_neg (by have := h.bl.size; omega)]
    exact Iff.rfl
theorem append_bool (v : Value) (n : Nat) (xs : List Value) (w : World) (base : Nat) (hbase : base ≤ w.heap.size) (hown : w.ownsRow base 4 1 v n xs) (vb : Nat) (p : Value) (hp : p.oneCell' = true) (hc : w.cell? ⟨vb, 0, none⟩ = some p) (hn : n ≤ 2000) (ty : TypeId) :
    ∃ v' w', (Builtin.append_ #[71, 71] ty #[v, .slice (some ⟨vb, 0, none⟩) 1 1]).run Try.prog w = .ok v' w' ∧ w'.ownsRow base 4 1 v' (n + 1) (xs ++ [p]) ∧ w.grownBy w' v.ownBlock ∧ (v'.ownBlock = v.ownBlock ∨ v'.ownBlock = some w.heap.size) := by
  obtain ⟨i0, hi, hz0, hz1, hz2⟩ := info_parts infoBo
  obtain ⟨v1, w1, hr, h2, h3, _, h5⟩ := run_append_own_at (P := Try.prog) w base 71 ty 4 i0 (.bool false) 1 1 Try.underlying71 hi hz0 hz1 hz2 rfl (by omega) v n xs hown ⟨vb, 0, none⟩ 1 1 [p] (by simp) (fun j u hu => by
    cases j with
    | zero => simp at hu; subst hu; exact hc
    | succ j => simp at hu) (by simpa using hp) (by simp only [maxLen]; omega) (by omega) hbase
  exact ⟨v1, w1, hr, h2, h3, h5⟩
theorem RW.ok.addB {m : RW} (h : m.ok) (x : ABk) (hl : m.list.length < 1000) (hx : x.text.size ≤ 1048576) : (m.addB x).ok where
  ls := by show (m.list ++ [x]).length ≤ 1000; rw [List.length_append, List.length_singleton]; omega
  gn := by show (m.gone ++ [false]).length = (m.list ++ [x]).length; rw [List.length_append, List.length_append, h.gn]; rfl
  tx := fun b hb => by
    rcases List.mem_append.1 hb with hb | hb
    · exact h.tx b hb
    · obtain rfl := List.mem_singleton.1 hb; exact hx
  bk := fun i hi ho => by
    have := h.bk i hi ho
    show (m.fs i).bk < (m.list ++ [x]).length
    rw [List.length_append]; omega
  pos := h.pos
theorem slice_form {w : World} {base size n : Nat} {e : TypeId} {v : Value} {xs : List Value} (h : w.ownsRow base e size v n xs) : ∃ a c, v = .slice a n c := by
  rcases h.2 with ⟨h1, h2⟩ | ⟨g, c, cur, h, _⟩
  · exact ⟨none, 0, by rw [h1, h2]⟩
  · exact ⟨_, _, h⟩
/-- a book and its mark are appended -/
theorem r_addb {κ : Nat → Tag} {L : RLay} {w : World} {m : RW} (h : RAt κ L w m) (x : ABk) (hl : m.list.length < 1000) (hx : x.text.size ≤ 1048576) :
    ∃ a1 c1 wb, (Builtin.append_ #[22, 22] 22 #[L.vl, .slice (some ⟨w.heap.size, 0, none⟩) 1 1]).run Try.prog (w.alloc (.cells x.cells 26)) = .ok (.slice a1 (m.list.length + 1) c1) wb ∧ (wb.cell? ⟨L.p, 0, none⟩ = some L.vl ∧ wb.frozen? ⟨L.p, 0, none⟩ = false) ∧
      ((wb.setCell ⟨L.p, 0, none⟩ (.slice a1 (m.list.length + 1) c1)).cell? ⟨L.p, 1, none⟩ = some L.vg) ∧
      ∃ a2 c2 we, (Builtin.append_ #[71, 71] 71 #[L.vg, .slice (some ⟨(wb.setCell ⟨L.p, 0, none⟩ (.slice a1 (m.list.length + 1) c1)).heap.size, 0, none⟩) 1 1]).run Try.prog ((wb.setCell ⟨L.p, 0, none⟩ (.slice a1 (m.list.length + 1) c1)).alloc (.cells #[.bool false] 4)) = .ok (.slice a2 (m.list.length + 1) c2) we ∧ (we.cell? ⟨L.p, 1, none⟩ = some L.vg ∧ we.frozen? ⟨L.p, 1, none⟩ = false) ∧
        ∃ κ' L', L'.p = L.p ∧ L'.vl = .slice a1 (m.list.length + 1) c1 ∧ RSt κ w κ' L' (we.setCell ⟨L.p, 1, none⟩ (.slice a2 (m.list.length + 1) c2)) (m.addB x) := by
  have hgn := h.ok.gn
  have hs0 : (w.alloc (.cells x.cells 26)).heap.size = w.heap.size + 1 := by simp
  obtain ⟨v1, wb, r1, o1, g1, b1⟩ := append_book L.vl _ _ (w.alloc (.cells x.cells 26)) 0 (Nat.zero_le _) (h.rl.alloc _) w.heap.size (.string x.name) (.string x.text) (.bool x.write) rfl rfl rfl (blk_new _ _) (by omega) 22
  obtain ⟨a1, c1, rfl⟩ := slice_form o1
  have hpl : L.p < w.heap.size := h.lt (by rw [h.tp]; exact Tag.noConfusion)
  have hpv : some L.p ≠ L.vl.ownBlock := fun e => by have := h.tl _ e.symm; rw [h.tp] at this; exact Tag.noConfusion this
  have hpg : some L.p ≠ L.vg.ownBlock := fun e => by have := h.tg _ e.symm; rw [h.tp] at this; exact Tag.noConfusion this
  have hvg : ∀ k, L.vl.ownBlock = some k → L.vg.ownBlock ≠ some k := fun k h1 h2 => by
    have q1 := h.tl _ h1
    have q2 := h.tg _ h2
    rw [q1] at q2; exact Tag.noConfusion q2
  have hvll : ∀ k, L.vl.ownBlock = some k → k < w.heap.size := fun k hk => h.lt (by rw [h.tl k hk]; exact Tag.noConfusion)
  have hvgl : ∀ k, L.vg.ownBlock = some k → k < w.heap.size := fun k hk => h.lt (by rw [h.tg k hk]; exact Tag.noConfusion)
  have k1 : ∀ k, k < w.heap.size → some k ≠ L.vl.ownBlock → wb.heap[k]? = w.heap[k]? := fun k hk hn => (g1.block k (by omega) hn).trans (Below.heap_alloc _ _ _ hk)
  have hpb := (k1 L.p hpl hpv).trans h.hp
  have hb1l : w.heap.size + 1 ≤ wb.heap.size := by have := g1.size; omega
  generalize hv1 : Value.slice a1 (m.list.length + 1) c1 = v1 at *
  have hset1 := blk_put hpb 0 v1 rfl
  have hoth1 : ∀ k, k ≠ L.p → (wb.setCell ⟨L.p, 0, none⟩ v1).heap[k]? = wb.heap[k]? := fun k hk => Below.heap_setCell _ _ _ _ hk
  have hss1 : (wb.setCell ⟨L.p, 0, none⟩ v1).heap.size = wb.heap.size := by simp [World.setCell]
  refine ⟨a1, c1, wb, by rw [hv1]; exact r1, ⟨(blk_cell hpb 0).trans rfl, blk_frozen hpb 0⟩, by rw [hv1]; exact (blk_cell hset1 1).trans rfl, ?_⟩
  have hpv1 : v1.ownBlock ≠ some L.p := by
    rcases b1 with e | e
    · rw [e]; exact fun e' => hpv e'.symm
    · rw [e, hs0]; intro e'; have := Option.some.inj e'; omega
  rw [hv1]
  have hrg1 : (wb.setCell ⟨L.p, 0, none⟩ v1).ownsRow 0 4 1 L.vg m.gone.length (m.gone.map .bool) := ownsRow_of_block h.rg fun g hg => by
    have hgl := hvgl g hg
    exact (hoth1 g (fun e => hpg (by rw [← e, hg]))).trans (k1 g hgl (fun e => hvg g e.symm hg))
  have hrl1 : (wb.setCell ⟨L.p, 0, none⟩ v1).ownsRow 0 26 3 v1 (m.list.length + 1) (m.list.flatMap ABk.cl ++ x.cl) := ownsRow_of_block o1 fun g hg => hoth1 g (fun e => hpv1 (by rw [← e, hg]))
  have hb1r : ∀ g, v1.ownBlock = some g → g < wb.heap.size := fun g hg => (o1.lt g hg).2
  have hwc1 : (wb.setCell ⟨L.p, 0, none⟩ v1).os = wb.os := rfl
  have hwc2 : (wb.setCell ⟨L.p, 0, none⟩ v1).tape = wb.tape := rfl
  have hwc3 : (wb.setCell ⟨L.p, 0, none⟩ v1).output = wb.output := rfl
  generalize wb.setCell ⟨L.p, 0, none⟩ v1 = wc at *
  have hs1 : (wc.alloc (.cells #[.bool false] 4)).heap.size = wc.heap.size + 1 := by simp
  obtain ⟨v2, we, r2, o2, g2, b2⟩ := append_bool L.vg _ _ (wc.alloc (.cells #[.bool false] 4)) 0 (Nat.zero_le _) (hrg1.alloc _) wc.heap.size (.bool false) rfl ((blk_cell (blk_new _ _) 0).trans rfl) (by omega) 71
  obtain ⟨a2, c2, rfl⟩ := slice_form o2
  rw [hgn] at r2
  have k2 : ∀ k, k < wc.heap.size → some k ≠ L.vg.ownBlock → we.heap[k]? = wc.heap[k]? := fun k hk hn => (g2.block k (by omega) hn).trans (Below.heap_alloc _ _ _ hk)
  have hpe := (k2 L.p (by omega) hpg).trans hset1
  generalize hv2 : Value.slice a2 (m.gone.length + 1) c2 = v2 at *
  have hv2' : Value.slice a2 (m.list.length + 1) c2 = v2 := by rw [← hgn]; exact hv2
  have hset2 := blk_put hpe 1 v2 rfl
  have hoth2 : ∀ k, k ≠ L.p → (we.setCell ⟨L.p, 1, none⟩ v2).heap[k]? = we.heap[k]? := fun k hk => Below.heap_setCell _ _ _ _ hk
  have hss2 : (we.setCell ⟨L.p, 1, none⟩ v2).heap.size = we.heap.size := by simp [World.setCell]
  refine ⟨a2, c2, we, by rw [hv2']; rw [hv2'] at r2; exact r2, ⟨(blk_cell hpe 1).trans rfl, blk_frozen hpe 1⟩, fun k => if v1.ownBlock = some k then .rb else if v2.ownBlock = some k then .bk 0 else κ k, { L with vl := v1, vg := v2 }, rfl, rfl, ?_⟩
  rw [hv2']
  have hpv2 : v2.ownBlock ≠ some L.p := by
    rcases b2 with e | e
    · rw [e]; exact fun e' => hpg e'.symm
    · rw [e, hs1]; intro e'; have := Option.some.inj e'; omega
  have h12 : ∀ k, v1.ownBlock = some k → v2.ownBlock ≠ some k := fun k e1 e2 => by
    have hk1 := hb1r k e1
    rcases b2 with e | e
    · rw [e] at e2
      rcases b1 with e' | e'
      · rw [e'] at e1; exact hvg k e1 e2
      · rw [e', hs0] at e1
        have := Option.some.inj e1
        have := hvgl k e2
        omega
    · rw [e, hs1] at e2
      have := Option.some.inj e2
      omega
  have hoth : ∀ k, k < w.heap.size → k ≠ L.p → some k ≠ L.vl.ownBlock → some k ≠ L.vg.ownBlock → (we.setCell ⟨L.p, 1, none⟩ v2).heap[k]? = w.heap[k]? := fun k hk hp h1 h2 =>
    (hoth2 k hp).trans ((k2 k (by omega) h2).trans ((hoth1 k hp).trans (k1 k hk h1)))
  have htag : ∀ k, k < w.heap.size → κ k ≠ .rb → κ k ≠ .bk 0 → (if v1.ownBlock = some k then Tag.rb else if v2.ownBlock = some k then .bk 0 else κ k) = κ k := fun k hk n1 n2 => by
    rw [if_neg, if_neg]
    · intro e
      rcases b2 with e' | e'
      · rw [e'] at e; exact n2 (h.tg k e)
      · rw [e', hs1] at e; have := Option.some.inj e; omega
    · intro e
      rcases b1 with e' | e'
      · rw [e'] at e; exact n1 (h.tl k e)
      · rw [e', hs0] at e; have := Option.some.inj e; omega
  have hfix : ∀ k t, κ k = t → t ≠ .no → t ≠ .wd → t ≠ .rb → t ≠ .bk 0 → (we.setCell ⟨L.p, 1, none⟩ v2).heap[k]? = w.heap[k]? := fun k t hk h0 h1 h2 h3 =>
    hoth k (h.lt (by rw [hk]; exact h0)) (fun e => h1 (by rw [← hk, e, h.tp])) (fun e => h2 (by rw [← hk]; exact h.tl k e.symm)) (fun e => h3 (by rw [← hk]; exact h.tg k e.symm))
  have hsz : w.heap.size ≤ (we.setCell ⟨L.p, 1, none⟩ v2).heap.size := by have := g2.size; omega
  refine ⟨⟨h.ok.addB x hl hx, ?_, hset2, ?_, ?_, ?_, ?_, ?_, ?_, ?_, ?_, ?_, ?_⟩, ?_⟩
  · show (if v1.ownBlock = some L.p then Tag.rb else if v2.ownBlock = some L.p then .bk 0 else κ L.p) = .wd
    rw [if_neg hpv1, if_neg hpv2, h.tp]
  · have e1 : (m.addB x).list.length = m.list.length + 1 := by show (m.list ++ [x]).length = _; simp
    have e2 : (m.addB x).list.flatMap ABk.cl = m.list.flatMap ABk.cl ++ x.cl := by show (m.list ++ [x]).flatMap ABk.cl = _; simp
    rw [e1, e2]
    exact ownsRow_of_block hrl1 fun g hg => (hoth2 g (fun e => hpv1 (by rw [← e, hg]))).trans (k2 g (by have := hb1r g hg; omega) (fun e => by
      rcases b1 with e' | e'
      · rw [e'] at hg; exact hvg g hg e.symm
      · rw [e', hs0] at hg; have := Option.some.inj hg; have := hvgl g e.symm; omega))
  · intro g hg
    exact if_pos hg
  · have e1 : (m.addB x).gone.length = m.gone.length + 1 := by show (m.gone ++ [false]).length = _; simp
    have e2 : (m.addB x).gone.map Value.bool = m.gone.map Value.bool ++ [.bool false] := by show (m.gone ++ [false]).map Value.bool = _; simp
    rw [e1, e2]
    exact ownsRow_of_block o2 fun g hg => hoth2 g (fun e => hpv2 (by rw [← e, hg]))
  · intro g hg
    show (if v1.ownBlock = some g then Tag.rb else if v2.ownBlock = some g then .bk 0 else κ g) = .bk 0
    rw [if_neg (fun e => h12 g e hg), if_pos hg]
  · exact (htag L.o (h.lt (by rw [h.tk]; exact Tag.noConfusion)) (by rw [h.tk]; exact Tag.noConfusion) (by rw [h.tk]; exact Tag.noConfusion)).trans h.tk
  · intro i hi j hj
    exact (World.cell?_of_block (hfix L.o .rf h.tk Tag.noConfusion Tag.noConfusion Tag.noConfusion Tag.noConfusion)).trans (h.ho i hi j hj)
  · exact (hfix L.o .rf h.tk Tag.noConfusion Tag.noConfusion Tag.noConfusion Tag.noConfusion).symm ▸ h.hz
  · intro i hi ho
    exact (htag (L.fb i) (h.lt (by rw [h.tf i hi ho]; exact Tag.noConfusion)) (by rw [h.tf i hi ho]; exact Tag.noConfusion) (by rw [h.tf i hi ho]; exact Tag.noConfusion)).trans (h.tf i hi ho)
  · intro i hi ho
    exact (hfix (L.fb i) (.fl i) (h.tf i hi ho) Tag.noConfusion Tag.noConfusion Tag.noConfusion Tag.noConfusion).trans (h.hf i hi ho)
  · intro k hk
    show (if v1.ownBlock = some k then Tag.rb else if v2.ownBlock = some k then .bk 0 else κ k) = .no
    have hk' : we.heap.size ≤ k := by rw [hss2] at hk; exact hk
    rw [if_neg (fun e => by have := hb1r k e; have := g2.size; omega), if_neg (fun e => by have := (o2.lt k e).2; omega)]
    exact h.top k (by have := g2.size; omega)
  · refine ⟨?_, ?_, ?_, hsz, fun k hk hn => ?_, fun k hk => ?_⟩
    · exact g2.os.trans (hwc1.trans g1.os)
    · exact g2.tape.trans (hwc2.trans g1.tape)
    · exact g2.output.trans (hwc3.trans g1.output)
    · exact hoth k hk (fun e => by rw [e, h.tp] at hn; exact Tag.noConfusion hn) (fun e => by rw [h.tl k e.symm] at hn; exact Tag.noConfusion hn) (fun e => by rw [h.tg k e.symm] at hn; exact Tag.noConfusion hn)
    · show (if v1.ownBlock = some k then Tag.rb else if v2.ownBlock = some k then .bk 0 else κ k) = .no ↔ κ k = .no
      by_cases e1 : v1.ownBlock = some k
      · rw [if_pos e1]
        rcases b1 with e' | e'
        · rw [e'] at e1; rw [h.tl k e1]
        · rw [e', hs0] at e1; have := Option.some.inj e1; omega
      · rw [if_neg e1]
        by_cases e2 : v2.ownBlock = some k
        · rw [if_pos e2]
          rcases b2 with e' | e'
          · rw [e'] at e2; rw [h.tg k e2]
          · rw [e', hs1] at e2; have := Option.some.inj e2; omega
        · rw [if_neg e2]
theorem RW.ok.setF {m : RW} (h : m.ok) (i : Nat) (f : RFl) (hb : f.op = true → f.bk < m.list.length) (hp : f.pos ≤ 1048576) : (m.setF i f).ok where
  ls := h.ls
  gn := h.gn
  tx := h.tx
  bk := fun j hj ho => by
    by_cases e : j = i
    · subst e
      have e1 : (m.setF j f).fs j = f := if_pos rfl
      rw [e1] at ho ⊢; exact hb ho
    · have e1 : (m.setF i f).fs j = m.fs j := if_neg e
      rw [e1] at ho ⊢; exact h.bk j hj ho
  pos := fun j hj => by
    by_cases e : j = i
    · subst e
      have e1 : (m.setF j f).fs j = f := if_pos rfl
      rw [e1]; exact hp
    · have e1 : (m.setF i f).fs j = m.fs j := if_neg e
      rw [e1]; exact h.pos j hj
/-- a whole file is stored -/
theorem RAt.setf {κ : Nat → Tag} {L : RLay} {w w' : World} {m : RW} (h : RAt κ L w m) (i : Nat) (hi : i < 20) (f : RFl) (fb : Nat) (hb : f.op = true → f.bk < m.list.length) (hp : f.pos ≤ 1048576)
    (hfb : f.op = true → w.heap.size ≤ fb ∧ fb < w'.heap.size ∧ w'.heap[fb]? = some (.cells (flc f) 4 (0, 0)))
    (hc : ∀ j, j < 5 → w'.cell? ⟨L.o, i * 5 + j, none⟩ = some (RLay.fcell { L with fb := fun k => if k = i then fb else L.fb k } i f j))
    (hk : ∀ k, (∀ j, j < 5 → k ≠ i * 5 + j) → w'.cell? ⟨L.o, k, none⟩ = w.cell? ⟨L.o, k, none⟩)
    (hz : ∃ cur, w'.heap[L.o]? = some (.cells cur 76 (0, 0)))
    (ho : ∀ k, k < w.heap.size → k ≠ L.o → w'.heap[k]? = w.heap[k]?)
    (h1 : w'.os = w.os) (h2 : w'.tape = w.tape) (h3 : w'.output = w.output) (h4 : w.heap.size ≤ w'.heap.size) :
    RSt κ w (fun k => if f.op = true ∧ k = fb then .fl i else κ k) { L with fb := fun k => if k = i then fb else L.fb k } w' (m.setF i f) := by
  have hkap : ∀ k, κ k ≠ .no → (if f.op = true ∧ k = fb then Tag.fl i else κ k) = κ k := fun k hn => by
    rw [if_neg]
    rintro ⟨e1, rfl⟩
    have := h.lt hn; have := (hfb e1).1; omega
  have hblk : ∀ k t, κ k = t → t ≠ .no → t ≠ .rf → w'.heap[k]? = w.heap[k]? := fun k t e n1 n2 =>
    ho k (h.lt (by rw [e]; exact n1)) (fun q => n2 (by rw [← e, q, h.tk]))
  refine ⟨⟨h.ok.setF i f hb hp, ?_, ?_, ?_, ?_, ?_, ?_, ?_, ?_, hz, ?_, ?_, ?_⟩, ?_⟩
  · exact (hkap L.p (by rw [h.tp]; exact Tag.noConfusion)).trans h.tp
  · exact (hblk L.p .wd h.tp Tag.noConfusion Tag.noConfusion).trans h.hp
  · exact ownsRow_of_block h.rl fun g hg => hblk g .rb (h.tl g hg) Tag.noConfusion Tag.noConfusion
  · exact fun g hg => (hkap g (by rw [h.tl g hg]; exact Tag.noConfusion)).trans (h.tl g hg)
  · exact ownsRow_of_block h.rg fun g hg => hblk g (.bk 0) (h.tg g hg) Tag.noConfusion Tag.noConfusion
  · exact fun g hg => (hkap g (by rw [h.tg g hg]; exact Tag.noConfusion)).trans (h.tg g hg)
  · exact (hkap L.o (by rw [h.tk]; exact Tag.noConfusion)).trans h.tk
  · intro j hj r hr
    by_cases e : j = i
    · subst e
      have e1 : (m.setF j f).fs j = f := if_pos rfl
      rw [e1]; exact hc r hr
    · have e1 : (m.setF i f).fs j = m.fs j := if_neg e
      rw [e1]
      refine (hk (j * 5 + r) (fun s hs => by omega)).trans ((h.ho j hj r hr).trans ?_)
      have e2 : RLay.fv { L with fb := fun k => if k = i then fb else L.fb k } j (m.fs j) = L.fv j (m.fs j) := by
        unfold RLay.fv; rw [show (RLay.fb { L with fb := fun k => if k = i then fb else L.fb k } j) = L.fb j from if_neg e]
      match r, hr with
      | 0, _ => rfl
      | 1, _ => rfl
      | 2, _ => rfl
      | 3, _ => rfl
      | 4, _ => exact congrArg some e2.symm
      | r + 5, hr => omega
  · intro j hj hop
    by_cases e : j = i
    · subst e
      have e1 : (m.setF j f).fs j = f := if_pos rfl
      rw [e1] at hop
      show (if f.op = true ∧ (if j = j then fb else L.fb j) = fb then Tag.fl j else κ (if j = j then fb else L.fb j)) = .fl j
      rw [if_pos rfl, if_pos ⟨hop, rfl⟩]
    · have e1 : (m.setF i f).fs j = m.fs j := if_neg e
      rw [e1] at hop
      show (if f.op = true ∧ (if j = i then fb else L.fb j) = fb then Tag.fl i else κ (if j = i then fb else L.fb j)) = .fl j
      rw [if_neg e]
      exact (hkap _ (by rw [h.tf j hj hop]; exact Tag.noConfusion)).trans (h.tf j hj hop)
  · intro j hj hop
    by_cases e : j = i
    · subst e
      have e1 : (m.setF j f).fs j = f := if_pos rfl
      rw [e1] at hop ⊢
      show w'.heap[(if j = j then fb else L.fb j)]? = _
      rw [if_pos rfl]
      exact (hfb hop).2.2
    · have e1 : (m.setF i f).fs j = m.fs j := if_neg e
      rw [e1] at hop ⊢
      show w'.heap[(if j = i then fb else L.fb j)]? = _
      rw [if_neg e]
      exact (hblk _ _ (h.tf j hj hop) Tag.noConfusion Tag.noConfusion).trans (h.hf j hj hop)
  · intro k hk'
    show (if f.op = true ∧ k = fb then Tag.fl i else κ k) = .no
    rw [if_neg]
    · exact h.top k (by omega)
    · rintro ⟨e1, rfl⟩
      have := (hfb e1).2.1; omega
  · refine ⟨h1, h2, h3, h4, fun k hk' hn => ho k hk' (fun e => by rw [e, h.tk] at hn; exact Tag.noConfusion hn), fun k hk' => ?_⟩
    show (if f.op = true ∧ k = fb then Tag.fl i else κ k) = .no ↔ κ k = .no
    rw [if_neg]
    rintro ⟨e1, rfl⟩
    have := (hfb e1).1; omega
/-- place and mood of a file are stored -/
theorem RAt.setpm {κ : Nat → Tag} {L : RLay} {w w' : World} {m : RW} (h : RAt κ L w m) (i : Nat) (hi : i < 20) (p md : Nat) (hp : p ≤ 1048576)
    (hc2 : w'.cell? ⟨L.o, i * 5 + 2, none⟩ = some (.int .i64 p)) (hc3 : w'.cell? ⟨L.o, i * 5 + 3, none⟩ = some (.int .i64 md))
    (hk : ∀ k, k ≠ i * 5 + 2 → k ≠ i * 5 + 3 → w'.cell? ⟨L.o, k, none⟩ = w.cell? ⟨L.o, k, none⟩)
    (hz : ∃ cur, w'.heap[L.o]? = some (.cells cur 76 (0, 0)))
    (ho : ∀ k, k ≠ L.o → w'.heap[k]? = w.heap[k]?)
    (h1 : w'.os = w.os) (h2 : w'.tape = w.tape) (h3 : w'.output = w.output) (h4 : w'.heap.size = w.heap.size) :
    RSt κ w κ L w' (m.setF i { m.fs i with pos := p, mood := md }) := by
  have hblk : ∀ k t, κ k = t → t ≠ .rf → w'.heap[k]? = w.heap[k]? := fun k t e n2 =>
    ho k (fun q => n2 (by rw [← e, q, h.tk]))
  have hop : ∀ j, ((m.setF i { m.fs i with pos := p, mood := md }).fs j).op = (m.fs j).op := fun j => by
    by_cases e : j = i
    · subst e; show (if j = j then ({ m.fs j with pos := p, mood := md } : RFl) else m.fs j).op = _; rw [if_pos rfl]
    · show (if j = i then ({ m.fs i with pos := p, mood := md } : RFl) else m.fs j).op = _; rw [if_neg e]
  have hfl : ∀ j, flc ((m.setF i { m.fs i with pos := p, mood := md }).fs j) = flc (m.fs j) := fun j => by
    by_cases e : j = i
    · subst e; show flc (if j = j then ({ m.fs j with pos := p, mood := md } : RFl) else m.fs j) = _; rw [if_pos rfl]; rfl
    · show flc (if j = i then ({ m.fs i with pos := p, mood := md } : RFl) else m.fs j) = _; rw [if_neg e]
  have hfv : ∀ j, L.fv j ((m.setF i { m.fs i with pos := p, mood := md }).fs j) = L.fv j (m.fs j) := fun j => by unfold RLay.fv; rw [hop]
  refine ⟨⟨h.ok.setF i _ (fun ho => h.ok.bk i hi ho) hp, h.tp, ?_, ?_, h.tl, ?_, h.tg, h.tk, ?_, hz, ?_, ?_, ?_⟩, ?_⟩
  · exact (hblk L.p .wd h.tp Tag.noConfusion).trans h.hp
  · exact ownsRow_of_block h.rl fun g hg => hblk g .rb (h.tl g hg) Tag.noConfusion
  · exact ownsRow_of_block h.rg fun g hg => hblk g (.bk 0) (h.tg g hg) Tag.noConfusion
  · intro j hj r hr
    by_cases e : j = i
    · subst e
      have e1 : (m.setF j { m.fs j with pos := p, mood := md }).fs j = { m.fs j with pos := p, mood := md } := if_pos rfl
      match r, hr with
      | 0, _ => exact (hk _ (by omega) (by omega)).trans ((h.ho j hj 0 (by decide)).trans (by rw [e1]; rfl))
      | 1, _ => exact (hk _ (by omega) (by omega)).trans ((h.ho j hj 1 (by decide)).trans (by rw [e1]; rfl))
      | 2, _ => exact hc2.trans (by rw [e1]; rfl)
      | 3, _ => exact hc3.trans (by rw [e1]; rfl)
      | 4, _ => exact (hk _ (by omega) (by omega)).trans ((h.ho j hj 4 (by decide)).trans (congrArg some (hfv j).symm))
      | r + 5, hr => omega
    · have e1 : (m.setF i { m.fs i with pos := p, mood := md }).fs j = m.fs j := if_neg e
      rw [e1]
      exact (hk (j * 5 + r) (by omega) (by omega)).trans (h.ho j hj r hr)
  · intro j hj ho'
    rw [hop] at ho'
    exact h.tf j hj ho'
  · intro j hj ho'
    rw [hop] at ho'
    rw [hfl]
    exact (hblk _ _ (h.tf j hj ho') Tag.noConfusion).trans (h.hf j hj ho')
  · intro k hk'
    exact h.top k (by omega)
  · exact ⟨h1, h2, h3, by omega, fun k hk' hn => ho k (fun e => by rw [e, h.tk] at hn; exact Tag.noConfusion hn), fun k hk' => Iff.rfl⟩
/-- the two stores -/
theorem RAt.put23 {κ : Nat → Tag} {L : RLay} {w : World} {m : RW} (h : RAt κ L w m) (i : Nat) (hi : i < 20) (p md : Nat) (hp : p ≤ 1048576) :
    RSt κ w κ L ((w.setCell ⟨L.o, i * 5 + 2, none⟩ (.int .i64 p)).setCell ⟨L.o, i * 5 + 3, none⟩ (.int .i64 md)) (m.setF i { m.fs i with pos := p, mood := md }) := by
  obtain ⟨_, _, c2, c3, _⟩ := h.fc i hi
  have d3 : (w.setCell ⟨L.o, i * 5 + 2, none⟩ (.int .i64 p)).cell? ⟨L.o, i * 5 + 3, none⟩ = some (.int .i64 (m.fs i).mood) := (World.cell?_setCell_other _ _ _ _ (by simp)).trans c3
  refine h.setpm i hi p md hp ?_ ?_ (fun k k2 k3 => ?_) ?_ (fun k hk => ?_) rfl rfl rfl (by simp [World.setCell])
  · exact (World.cell?_setCell_other _ _ _ _ (by simp)).trans (World.cell?_setCell_same _ _ _ c2)
  · exact World.cell?_setCell_same _ _ _ d3
  · exact (World.cell?_setCell_other _ _ _ _ (by first | (simp; done) | (simp; omega))).trans (World.cell?_setCell_other _ _ _ _ (by first | (simp; done) | (simp; omega)))
  · obtain ⟨cur, hc⟩ := h.hz
    exact ⟨_, blk_put (blk_put hc (i * 5 + 2) _ rfl) (i * 5 + 3) _ rfl⟩
  · exact (Below.heap_setCell _ _ _ _ hk).trans (Below.heap_setCell _ _ _ _ hk)
theorem RAt.put32 {κ : Nat → Tag} {L : RLay} {w : World} {m : RW} (h : RAt κ L w m) (i : Nat) (hi : i < 20) (p md : Nat) (hp : p ≤ 1048576) :
    RSt κ w κ L ((w.setCell ⟨L.o, i * 5 + 3, none⟩ (.int .i64 md)).setCell ⟨L.o, i * 5 + 2, none⟩ (.int .i64 p)) (m.setF i { m.fs i with pos := p, mood := md }) := by
  obtain ⟨_, _, c2, c3, _⟩ := h.fc i hi
  have d2 : (w.setCell ⟨L.o, i * 5 + 3, none⟩ (.int .i64 md)).cell? ⟨L.o, i * 5 + 2, none⟩ = some (.int .i64 (m.fs i).pos) := (World.cell?_setCell_other _ _ _ _ (by simp)).trans c2
  refine h.setpm i hi p md hp ?_ ?_ (fun k k2 k3 => ?_) ?_ (fun k hk => ?_) rfl rfl rfl (by simp [World.setCell])
  · exact World.cell?_setCell_same _ _ _ d2
  · exact (World.cell?_setCell_other _ _ _ _ (by simp)).trans (World.cell?_setCell_same _ _ _ c3)
  · exact (World.cell?_setCell_other _ _ _ _ (by first | (simp; done) | (simp; omega))).trans (World.cell?_setCell_other _ _ _ _ (by first | (simp; done) | (simp; omega)))
  · obtain ⟨cur, hc⟩ := h.hz
    exact ⟨_, blk_put (blk_put hc (i * 5 + 3) _ rfl) (i * 5 + 2) _ rfl⟩
  · exact (Below.heap_setCell _ _ _ _ hk).trans (Below.heap_setCell _ _ _ _ hk)
def set5 (w : World) (o i : Nat) (v0 v1 v2 v3 v4 : Value) : World :=
  ((((w.setCell ⟨o, i * 5, none⟩ v0).setCell ⟨o, i * 5 + 1, none⟩ v1).setCell ⟨o, i * 5 + 2, none⟩ v2).setCell ⟨o, i * 5 + 3, none⟩ v3).setCell ⟨o, i * 5 + 4, none⟩ v4
theorem set5_far (w : World) (o i : Nat) (v0 v1 v2 v3 v4 : Value) (k : Nat) (hk : ∀ j, j < 5 → k ≠ i * 5 + j) : (set5 w o i v0 v1 v2 v3 v4).cell? ⟨o, k, none⟩ = w.cell? ⟨o, k, none⟩ := by
  have h0 : k ≠ i * 5 := hk 0 (by decide)
  have h1 := hk 1 (by decide)
  have h2 := hk 2 (by decide)
  have h3 := hk 3 (by decide)
  have h4 := hk 4 (by decide)
  unfold set5
  rw [World.cell?_setCell_other _ _ _ _ (by intro e; injection e with e1 e2; omega), World.cell?_setCell_other _ _ _ _ (by intro e; injection e with e1 e2; omega), World.cell?_setCell_other _ _ _ _ (by intro e; injection e with e1 e2; omega), World.cell?_setCell_other _ _ _ _ (by intro e; injection e with e1 e2; omega), World.cell?_setCell_other _ _ _ _ (by intro e; injection e with e1 e2; omega)]
theorem set5_at (w : World) (o i : Nat) (v0 v1 v2 v3 v4 : Value) (h : ∀ j, j < 5 → ∃ u, w.cell? ⟨o, i * 5 + j, none⟩ = some u) (j : Nat) (hj : j < 5) : (set5 w o i v0 v1 v2 v3 v4).cell? ⟨o, i * 5 + j, none⟩ = [v0, v1, v2, v3, v4][j]? := by
  obtain ⟨u0, c0⟩ := h 0 (by decide)
  obtain ⟨u1, c1⟩ := h 1 (by decide)
  obtain ⟨u2, c2⟩ := h 2 (by decide)
  obtain ⟨u3, c3⟩ := h 3 (by decide)
  obtain ⟨u4, c4⟩ := h 4 (by decide)
  have d0 := World.cell?_setCell_same w ⟨o, i * 5, none⟩ v0 c0
  have hj' : j = 0 ∨ j = 1 ∨ j = 2 ∨ j = 3 ∨ j = 4 := by omega
  unfold set5
  rcases hj' with rfl | rfl | rfl | rfl | rfl
  · rw [World.cell?_setCell_other _ _ _ _ (by simp), World.cell?_setCell_other _ _ _ _ (by simp), World.cell?_setCell_other _ _ _ _ (by simp), World.cell?_setCell_other _ _ _ _ (by simp)]
    exact d0
  · rw [World.cell?_setCell_other _ _ _ _ (by simp), World.cell?_setCell_other _ _ _ _ (by simp), World.cell?_setCell_other _ _ _ _ (by simp)]
    exact World.cell?_setCell_same _ _ _ ((World.cell?_setCell_other _ _ _ _ (by simp)).trans c1)
  · rw [World.cell?_setCell_other _ _ _ _ (by simp), World.cell?_setCell_other _ _ _ _ (by simp)]
    exact World.cell?_setCell_same _ _ _ ((World.cell?_setCell_other _ _ _ _ (by simp)).trans ((World.cell?_setCell_other _ _ _ _ (by simp)).trans c2))
  · rw [World.cell?_setCell_other _ _ _ _ (by simp)]
    exact World.cell?_setCell_same _ _ _ ((World.cell?_setCell_other _ _ _ _ (by simp)).trans ((World.cell?_setCell_other _ _ _ _ (by simp)).trans ((World.cell?_setCell_other _ _ _ _ (by simp)).trans c3)))
  · exact World.cell?_setCell_same _ _ _ ((World.cell?_setCell_other _ _ _ _ (by simp)).trans ((World.cell?_setCell_other _ _ _ _ (by simp)).trans ((World.cell?_setCell_other _ _ _ _ (by simp)).trans ((World.cell?_setCell_other _ _ _ _ (by simp)).trans c4))))
theorem set5_block (w : World) (o i : Nat) (v0 v1 v2 v3 v4 : Value) (k : Nat) (hk : k ≠ o) : (set5 w o i v0 v1 v2 v3 v4).heap[k]? = w.heap[k]? := by
  unfold set5
  rw [Below.heap_setCell _ _ _ _ hk, Below.heap_setCell _ _ _ _ hk, Below.heap_setCell _ _ _ _ hk, Below.heap_setCell _ _ _ _ hk, Below.heap_setCell _ _ _ _ hk]
theorem set5_size (w : World) (o i : Nat) (v0 v1 v2 v3 v4 : Value) : (set5 w o i v0 v1 v2 v3 v4).heap.size = w.heap.size := by simp [set5, World.setCell]
theorem RAt.set5 {κ : Nat → Tag} {L : RLay} {w w4 : World} {m : RW} (h : RAt κ L w m) (hB : Below w.heap.size w w4) (i : Nat) (hi : i < 20) (f : RFl) (fb : Nat) (hb : f.op = true → f.bk < m.list.length) (hp : f.pos ≤ 1048576)
    (hfb : f.op = true → w.heap.size ≤ fb ∧ fb < w4.heap.size ∧ w4.heap[fb]? = some (.cells (flc f) 4 (0, 0))) (v4 : Value) (hv4 : v4 = if f.op = true then .slice (some ⟨fb, 0, none⟩) 6 6 else .slice none 0 0) :
    RSt κ w (fun k => if f.op = true ∧ k = fb then .fl i else κ k) { L with fb := fun k => if k = i then fb else L.fb k } (PB.set5 w4 L.o i (.bool f.op) (.int .i64 f.bk) (.int .i64 f.pos) (.int .i64 f.mood) v4) (m.setF i f) := by
  have h4 := h.below hB
  have hol : L.o < w.heap.size := h.lt (by rw [h.tk]; exact Tag.noConfusion)
  refine h.setf i hi f fb hb hp (fun ho => ?_) (fun j hj => ?_) (fun k hk => ?_) ?_ (fun k hk hn => ?_) hB.os hB.tape hB.output (by rw [set5_size]; exact hB.size)
  · obtain ⟨a, b, c⟩ := hfb ho
    exact ⟨a, by rw [set5_size]; exact b, (set5_block _ _ _ _ _ _ _ _ fb (by omega)).trans c⟩
  · rw [set5_at _ _ _ _ _ _ _ _ (fun j hj => ⟨_, h4.ho i hi j hj⟩) j hj]
    match j, hj with
    | 0, _ => rfl
    | 1, _ => rfl
    | 2, _ => rfl
    | 3, _ => rfl
    | 4, _ =>
      show some v4 = some (RLay.fv { L with fb := fun k => if k = i then fb else L.fb k } i f)
      rw [hv4]
      unfold RLay.fv
      rw [show (RLay.fb { L with fb := fun k => if k = i then fb else L.fb k } i) = fb from if_pos rfl]
    | j + 5, hj => omega
  · exact (set5_far _ _ _ _ _ _ _ _ k hk).trans (World.cell?_of_block (hB.block _ hol))
  · obtain ⟨cur, hc⟩ := h4.hz
    exact ⟨_, blk_put (blk_put (blk_put (blk_put (blk_put hc (i * 5) _ rfl) (i * 5 + 1) _ rfl) (i * 5 + 2) _ rfl) (i * 5 + 3) _ rfl) (i * 5 + 4) _ rfl⟩
  · exact (set5_block _ _ _ _ _ _ _ _ k hn).trans (hB.block k hk)
theorem flK_fresh (b : Nat) : flc (freshR b) = flK := rfl
end Go.Proofs.Ytonmdifmlpfcpaa.PB
