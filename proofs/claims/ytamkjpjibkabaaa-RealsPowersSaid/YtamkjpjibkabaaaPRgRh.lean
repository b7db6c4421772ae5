-- written by a program of this session out of the kit's print (its words and its form)
import Derived.Test.YtamkjpjibkabaaaPRgRa
import Derived.Test.YtamkjpjibkabaaaPRgRf
import Derived.Test.YtamkjpjibkabaaaPRgRz
import Derived.Test.YtamkjpjibkabaaaPRsq
import Derived.Test.YtamkjpjibkabaaaPRx0
namespace Go.Proofs.Ytamkjpjibkabaaa.PR
open Go.RowKit Go.Proofs.YtamkjpjibkabaaaW.PrintWords Go.Proofs.YtamkjpjibkabaaaW.PrintLast Go.Proofs.YtamkjpjibkabaaaW.PrintMore
attribute [local go_sem] max2_int min2_int max_two min_two max_three min_three max_four min_four   -- for this text's walks alone
set_option linter.unusedVariables false
set_option linter.unusedSimpArgs false

/-! ### environref02_Pow: function 20 -/
mutual
def environref02_Pow.j0 : Nat → Int → Int → Bool → Int → Int → Option (Int × Int × Int)
 | 0, _, _, _, _, _ => none
 | k + 1, x0, x2, x26, x539000, x539001 => if x26 = true then (some (0, 0, 11)) else (if x2 < 0 then (environref02_Pow.j1 k x0 x2 (wrap64 (-x2)) x539000 x539001 1 0) else (environref02_Pow.j1 k x0 x2 x2 x539000 x539001 1 0))
def environref02_Pow.j1 : Nat → Int → Int → Int → Int → Int → Int → Int → Option (Int × Int × Int)
 | 0, _, _, _, _, _, _, _ => none
 | k + 1, x0, x2, x10, x539000, x539001, x542000, x542001 => environref02_Pow.l0 k x0 x2 x10 x539000 x539001 x542000 x542001
def environref02_Pow.l0 : Nat → Int → Int → Int → Int → Int → Int → Int → Option (Int × Int × Int)
 | 0, _, _, _, _, _, _, _ => none
 | k + 1, x0, x2, x10, x539000, x539001, x542000, x542001 => if x10 > 0 then ((environref02_Mul.f k x0 0 x542000 x542001 x539000 x539001).bind fun bt542 => (if bt542.2.2 = 0 then (environref02_Pow.l0 k x0 x2 (wrap64 (x10 - 1)) x539000 x539001 bt542.1 bt542.2.1) else (some (0, 0, bt542.2.2)))) else (if x2 < 0 then ((environref02_Div.f k x0 0 1 0 x542000 x542001).bind fun bt546 => (some (bt546.1, bt546.2.1, bt546.2.2))) else (some (x542000, x542001, 0)))
end
def environref02_Pow.f (k : Nat) (a0 : Int) (a1_0 : Int) (a1_1 : Int) (a2 : Int) : Option (Int × Int × Int) := (environref02_right.f k a0 0 a1_0 a1_1 0 0).bind fun t540 => (if t540 = 0 then (if a2 < (-1000) then (environref02_Pow.j0 k a0 a2 true a1_0 a1_1) else (environref02_Pow.j0 k a0 a2 (decide (a2 > 1000)) a1_0 a1_1)) else (some (0, 0, t540)))
theorem environref02_Pow.mono_l : ∀ k, (∀ y0 y1 y2 y3 y4, LeO (environref02_Pow.j0 k y0 y1 y2 y3 y4) (environref02_Pow.j0 (k + 1) y0 y1 y2 y3 y4)) ∧ (∀ y0 y1 y2 y3 y4 y5 y6, LeO (environref02_Pow.j1 k y0 y1 y2 y3 y4 y5 y6) (environref02_Pow.j1 (k + 1) y0 y1 y2 y3 y4 y5 y6)) ∧ (∀ y0 y1 y2 y3 y4 y5 y6, LeO (environref02_Pow.l0 k y0 y1 y2 y3 y4 y5 y6) (environref02_Pow.l0 (k + 1) y0 y1 y2 y3 y4 y5 y6))
 | 0 => ⟨fun _ _ _ _ _ r h => by simp [environref02_Pow.j0] at h, fun _ _ _ _ _ _ _ r h => by simp [environref02_Pow.j1] at h, fun _ _ _ _ _ _ _ r h => by simp [environref02_Pow.l0] at h⟩
 | k + 1 => by
  obtain ⟨ih0, ih1, ih2⟩ := environref02_Pow.mono_l k
  refine ⟨?_, ?_, ?_⟩
  ·intro y0 y1 y2 y3 y4
   unfold environref02_Pow.j0
   repeat' first
   | (with_reducible exact ih0 _ _ _ _ _)
   | (with_reducible exact ih1 _ _ _ _ _ _ _)
   | (with_reducible exact ih2 _ _ _ _ _ _ _)
   | (with_reducible exact environref02_Div.mono _ _ _ _ _ _ _)
   | (with_reducible exact environref02_Mul.mono _ _ _ _ _ _ _)
   | (with_reducible exact environref02_right.mono _ _ _ _ _ _ _)
   | (with_reducible exact LeO.refl _)
   | (with_reducible exact LeO.none _)
   | (with_reducible refine LeO.ite ?_ ?_)
   | (with_reducible refine LeO.bind ?_ (fun _ => ?_))
   | exact ih0 _ _ _ _ _
   | exact ih1 _ _ _ _ _ _ _
   | exact ih2 _ _ _ _ _ _ _
   | exact environref02_Div.mono _ _ _ _ _ _ _
   | exact environref02_Mul.mono _ _ _ _ _ _ _
   | exact environref02_right.mono _ _ _ _ _ _ _
   | exact LeO.none _
   | refine LeO.ite ?_ ?_
   | refine LeO.bind ?_ (fun _ => ?_)
  ·intro y0 y1 y2 y3 y4 y5 y6
   unfold environref02_Pow.j1
   repeat' first
   | (with_reducible exact ih0 _ _ _ _ _)
   | (with_reducible exact ih1 _ _ _ _ _ _ _)
   | (with_reducible exact ih2 _ _ _ _ _ _ _)
   | (with_reducible exact environref02_Div.mono _ _ _ _ _ _ _)
   | (with_reducible exact environref02_Mul.mono _ _ _ _ _ _ _)
   | (with_reducible exact environref02_right.mono _ _ _ _ _ _ _)
   | (with_reducible exact LeO.refl _)
   | (with_reducible exact LeO.none _)
   | (with_reducible refine LeO.ite ?_ ?_)
   | (with_reducible refine LeO.bind ?_ (fun _ => ?_))
   | exact ih0 _ _ _ _ _
   | exact ih1 _ _ _ _ _ _ _
   | exact ih2 _ _ _ _ _ _ _
   | exact environref02_Div.mono _ _ _ _ _ _ _
   | exact environref02_Mul.mono _ _ _ _ _ _ _
   | exact environref02_right.mono _ _ _ _ _ _ _
   | exact LeO.none _
   | refine LeO.ite ?_ ?_
   | refine LeO.bind ?_ (fun _ => ?_)
  ·intro y0 y1 y2 y3 y4 y5 y6
   unfold environref02_Pow.l0
   repeat' first
   | (with_reducible exact ih0 _ _ _ _ _)
   | (with_reducible exact ih1 _ _ _ _ _ _ _)
   | (with_reducible exact ih2 _ _ _ _ _ _ _)
   | (with_reducible exact environref02_Div.mono _ _ _ _ _ _ _)
   | (with_reducible exact environref02_Mul.mono _ _ _ _ _ _ _)
   | (with_reducible exact environref02_right.mono _ _ _ _ _ _ _)
   | (with_reducible exact LeO.refl _)
   | (with_reducible exact LeO.none _)
   | (with_reducible refine LeO.ite ?_ ?_)
   | (with_reducible refine LeO.bind ?_ (fun _ => ?_))
   | exact ih0 _ _ _ _ _
   | exact ih1 _ _ _ _ _ _ _
   | exact ih2 _ _ _ _ _ _ _
   | exact environref02_Div.mono _ _ _ _ _ _ _
   | exact environref02_Mul.mono _ _ _ _ _ _ _
   | exact environref02_right.mono _ _ _ _ _ _ _
   | exact LeO.none _
   | refine LeO.ite ?_ ?_
   | refine LeO.bind ?_ (fun _ => ?_)
theorem environref02_Pow.mono : ∀ a0 a1 a2 a3 k, LeO (environref02_Pow.f k a0 a1 a2 a3) (environref02_Pow.f (k + 1) a0 a1 a2 a3) := by
 intro a0 a1 a2 a3 k
 obtain ⟨ih0, ih1, ih2⟩ := environref02_Pow.mono_l k
 unfold environref02_Pow.f
 repeat' first
   | (with_reducible exact ih0 _ _ _ _ _)
   | (with_reducible exact ih1 _ _ _ _ _ _ _)
   | (with_reducible exact ih2 _ _ _ _ _ _ _)
   | (with_reducible exact environref02_Div.mono _ _ _ _ _ _ _)
   | (with_reducible exact environref02_Mul.mono _ _ _ _ _ _ _)
   | (with_reducible exact environref02_right.mono _ _ _ _ _ _ _)
   | (with_reducible exact LeO.refl _)
   | (with_reducible exact LeO.none _)
   | (with_reducible refine LeO.ite ?_ ?_)
   | (with_reducible refine LeO.bind ?_ (fun _ => ?_))
   | exact ih0 _ _ _ _ _
   | exact ih1 _ _ _ _ _ _ _
   | exact ih2 _ _ _ _ _ _ _
   | exact environref02_Div.mono _ _ _ _ _ _ _
   | exact environref02_Mul.mono _ _ _ _ _ _ _
   | exact environref02_right.mono _ _ _ _ _ _ _
   | exact LeO.none _
   | refine LeO.ite ?_ ?_
   | refine LeO.bind ?_ (fun _ => ?_)
set_option maxHeartbeats 8000000 in
set_option maxRecDepth 100000 in
theorem environref02_Pow.calls (k : Nat) (a0 : Int) (a1_0 : Int) (a1_1 : Int) (a2 : Int) (r1 : Int) (r2 : Int) (r3 : Int) (w : World) (h : environref02_Pow.f k a0 a1_0 a1_1 a2 = some (r1, r2, r3)) :
  Calls Try.prog 20 #[.int .i64 a0, .agg #[.int .i64 a1_0, .int .i64 a1_1], .int .i64 a2] w fun e w' => e = .returned (.tuple #[.agg #[.int .i64 r1, .int .i64 r2], .int .i64 r3]) ∧ Below w.heap.size w w' := by
 have hu29 := Try.underlying29
 have HB := Aside0.mk (Below.refl w.heap.size w)
 have H : ((environref02_right.f k a0 0 a1_0 a1_1 0 0).bind fun t540 => (if t540 = 0 then (if a2 < (-1000) then (environref02_Pow.j0 k a0 a2 true a1_0 a1_1) else (environref02_Pow.j0 k a0 a2 (decide (a2 > 1000)) a1_0 a1_1)) else (some (0, 0, t540)))) = some (r1, r2, r3) := h
 clear h
 replace H := Option.bind_eq_some_iff.mp H
 obtain ⟨t540, A40, H⟩ := H
 replace H : (if t540 = 0 then (if a2 < (-1000) then (environref02_Pow.j0 k a0 a2 true a1_0 a1_1) else (environref02_Pow.j0 k a0 a2 (decide (a2 > 1000)) a1_0 a1_1)) else (some (0, 0, t540))) = some (r1, r2, r3) := H
 have A4 := Aside0.mk A40
 clear A40
 by_cases c5 : t540 = 0
 ·rw [if_pos c5] at H
  have c5b0 : (t540 == 0) = true := beq_iff_eq.mpr c5
  have c5b1 : (t540 != 0) = false := bne_eq_false_iff_eq.mpr c5
  clear c5
  have HC6 := Aside0.mk H
  clear H
  go_enter Try.func20, Try.ntmps20
  go_upto_region 4 with (first | ((with_reducible refine gate_dst (N := 4) rfl ?_); refine box_event ?hg (N := 4) ?hd (cs := #[.int .i64 a1_0, .int .i64 a1_1]) (t := 29) ?hr ?_; (case hd => rfl); (case hg => rfl); (case hr => first | (go_simp; done) | (go_simp; rfl)); intro gb538 hg w7 hbox hb; have BK538 := Aside0.mk (hbox); have GW538 := Aside0.mk (bs HB hg : w.heap.size ≤ gb538); replace HB := Aside0.mk (below_step (bw HB) hb); clear hb hbox hg) | ((with_reducible refine gate_dst (N := 6) rfl ?_); refine box_event ?hg (N := 6) ?hd (cs := #[.int .i64 0, .int .i64 0]) (t := 29) ?hr ?_; (case hd => rfl); (case hg => rfl); (case hr => first | (go_simp; done) | (go_simp; rfl)); intro gb539 hg w8 hbox hb; have BK539 := Aside0.mk (hbox); have GW539 := Aside0.mk (bs HB hg : w.heap.size ≤ gb539); replace HB := Aside0.mk (below_step (bw HB) hb); have NB538_539 := Aside0.mk (nl BK538 hg); have NB539_538 := Aside0.mk (ng BK538 hg); replace BK538 := Aside0.mk (bb BK538 hb); clear hb hbox hg; have hnb9 := NB538_539.out; have hnc9 := NB539_538.out; obtain ⟨hcz10_0, hcz10_1, hfz10_0, hfz10_1⟩ := cf2 BK538) | ((with_reducible refine gate_callee (f := 53) rfl ?_); refine goesL_ (some 16) rfl rfl Try.func53 (by kernel_rfl) rfl #[.int .i64 a0, .int .i64 0, .agg #[.int .i64 a1_0, .int .i64 a1_1], .agg #[.int .i64 0, .int .i64 0]] rfl (by (try simp only [List.map_toArray, List.map_cons, List.map_nil]); first | done | rfl | (simp only [List.length_drop, List.length_take]; rfl)) ?_; (with_reducible refine (environref02_right.calls k a0 0 a1_0 a1_1 0 0 t540 _ A4.out).mono ?_); rintro e w11 ⟨rfl, hb⟩; refine ⟨_, rfl, ?_⟩; replace BK538 := Aside0.mk (bb BK538 hb); replace BK539 := Aside0.mk (bb BK539 hb); replace HB := Aside0.mk (below_step (bw HB) hb); (try clear hb); (try clear hb2); (try clear hk); (try clear hi)))
  (try simp only [sx])
  go_cut [26] (fun v26 wc => ∃ (kq : Nat) (x26_5 : Bool), v26 = .bool x26_5 ∧ Aside0 (environref02_Pow.j0 kq a0 a2 x26_5 a1_0 a1_1 = some (r1, r2, r3)) ∧ Aside0 (kq ≤ k) ∧ Aside0 (wc.heap[gb538]? = some (.cells #[.int .i64 a1_0, .int .i64 a1_1] 29 (0, 0))) ∧ Aside0 (wc.heap[gb539]? = some (.cells #[.int .i64 0, .int .i64 0] 29 (0, 0))) ∧ Aside0 (Below w.heap.size w wc))
  case first =>
   have H := HC6.out
   clear HC6
   by_cases c12 : a2 < (-1000)
   ·rw [if_pos c12] at H
    have c12b0 : decide (a2 < (-1000)) = true := decide_eq_true c12
    clear c12
    (first | rw [c12b0] | (simp only [i64_w, i32_w]; rw [c12b0]) | skip)
    have H' := Aside0.mk H
    clear H
    go_wp2
    go_meet
    case rel => exact ⟨_, (true), (by first | rfl | (simp; done) | (simp [*]; done)), H', ⟨by first | omega | exact Nat.le_refl _⟩, ⟨by (with_reducible repeat (first | refine blk_drewN ?_ _ | refine blk_drew ?_ | refine blk_alloc ?_ _)); exact BK538.out⟩, ⟨by (with_reducible repeat (first | refine blk_drewN ?_ _ | refine blk_drew ?_ | refine blk_alloc ?_ _)); exact BK539.out⟩, ⟨bw HB⟩⟩
   ·rw [if_neg c12] at H
    have c12b0 : decide (a2 < (-1000)) = false := decide_eq_false c12
    clear c12
    (first | rw [c12b0] | (simp only [i64_w, i32_w]; rw [c12b0]) | skip)
    have H' := Aside0.mk H
    clear H
    go_wp2
    go_meet
    case rel => exact ⟨_, (decide (a2 > 1000)), (by first | rfl | (simp; done) | (simp [*]; done)), H', ⟨by first | omega | exact Nat.le_refl _⟩, ⟨by (with_reducible repeat (first | refine blk_drewN ?_ _ | refine blk_drew ?_ | refine blk_alloc ?_ _)); exact BK538.out⟩, ⟨by (with_reducible repeat (first | refine blk_drewN ?_ _ | refine blk_drew ?_ | refine blk_alloc ?_ _)); exact BK539.out⟩, ⟨bw HB⟩⟩
  case rest =>
   clear HC6
   try clear c1
   try clear c2
   try clear p2
   try clear c5
   try clear c5b0
   try clear c5b1
   try clear c9
   try clear c12
   try clear c12b0
   try clear hcz10_0
   try clear hcz10_1
   try clear hfz10_0
   try clear hfz10_1
   obtain ⟨kq, x26_5, rfl, HA, HJ5, BK538, BK539, HB⟩ := hcut
   cases kq with
   | zero => exact absurd HA.out (by simp [environref02_Pow.j0])
   | succ kj5 =>
    have H := HA.out
    clear HA
    simp only [environref02_Pow.j0] at H
    by_cases c13 : x26_5 = true
    ·subst c13
     have H1 : (some (0, 0, 11)) = some (r1, r2, r3) := by rw [if_pos rfl] at H; exact H
     clear H
     have H := H1
     clear H1
     simp only [Option.some.injEq, Prod.mk.injEq] at H
     obtain ⟨rfl, rfl, rfl⟩ := H
     have hnb14 := NB539_538.out
     have hnc14 := NB538_539.out
     have hcz15_0 : wc.cell? ⟨gb539, 0, none⟩ = some (.int .i64 0) := (blk_cell BK539.out 0).trans rfl
     have hcz15_1 : wc.cell? ⟨gb539, 1, none⟩ = some (.int .i64 0) := (blk_cell BK539.out 1).trans rfl
     have hfz15_0 := blk_frozen BK539.out 0
     have hfz15_1 := blk_frozen BK539.out 1
     go_wp2
     refine bodyPost_ret (results_ct rfl _ _ gb539 29 #[.int .i64 0, .int .i64 0] (0, 0) _ rfl (by (with_reducible repeat (first | refine blk_drewN ?_ _ | refine blk_drew ?_ | refine blk_alloc ?_ _)); refine blk_put (cs := #[.int .i64 0, .int .i64 0]) ?_ 1 _ rfl; (with_reducible repeat (first | refine blk_drewN ?_ _ | refine blk_drew ?_ | refine blk_alloc ?_ _)); refine blk_put (cs := #[.int .i64 0, .int .i64 0]) ?_ 0 _ rfl; (with_reducible repeat (first | refine blk_drewN ?_ _ | refine blk_drew ?_ | refine blk_alloc ?_ _)); exact BK539.out) Try.underlying29 rfl (by kernel_rfl)) rfl ?_
     exact ⟨by first | rfl | (simp [errW_none, errW_some] <;> rfl) | (simp [*, errW_none, errW_some] <;> rfl), bw HB⟩
    ·replace c13 := Bool.eq_false_iff.mpr c13
     subst c13
     have H1 : (if a2 < 0 then (environref02_Pow.j1 kj5 a0 a2 (wrap64 (-a2)) a1_0 a1_1 1 0) else (environref02_Pow.j1 kj5 a0 a2 a2 a1_0 a1_1 1 0)) = some (r1, r2, r3) := by rw [if_neg (show ¬ (false = true) by decide)] at H; exact H
     clear H
     have H := H1
     clear H1
     have HC16 := Aside0.mk H
     clear H
     go_upto_if 31 with (first | ((with_reducible refine gate_dst (N := 9) rfl ?_); refine box_event ?hg (N := 9) ?hd (cs := #[.int .i64 0, .int .i64 0]) (t := 29) ?hr ?_; (case hd => rfl); (case hg => rfl); (case hr => first | (go_simp; done) | (go_simp; rfl)); intro gb541 hg w17 hbox hb; have BK541 := Aside0.mk (hbox); have GW541 := Aside0.mk (bs HB hg : w.heap.size ≤ gb541); replace HB := Aside0.mk (below_step (bw HB) hb); have NB538_541 := Aside0.mk (nl BK538 hg); have NB541_538 := Aside0.mk (ng BK538 hg); replace BK538 := Aside0.mk (bb BK538 hb); have NB539_541 := Aside0.mk (nl BK539 hg); have NB541_539 := Aside0.mk (ng BK539 hg); replace BK539 := Aside0.mk (bb BK539 hb); clear hb hbox hg; have hnb18 := NB541_538.out; have hnc18 := NB538_541.out; have hnb19 := NB541_539.out; have hnc19 := NB539_541.out; obtain ⟨hcz20_0, hcz20_1, hfz20_0, hfz20_1⟩ := cf2 BK541))
     (try simp only [sx])
     go_cut [10] (fun v10 wc => ∃ (kq : Nat) (x10_15 : Int), v10 = .int .i64 x10_15 ∧ Aside0 (environref02_Pow.j1 kq a0 a2 x10_15 a1_0 a1_1 1 0 = some (r1, r2, r3)) ∧ Aside0 (kq ≤ kj5) ∧ Aside0 (wc.heap[gb538]? = some (.cells #[.int .i64 a1_0, .int .i64 a1_1] 29 (0, 0))) ∧ Aside0 (wc.heap[gb539]? = some (.cells #[.int .i64 0, .int .i64 0] 29 (0, 0))) ∧ Aside0 (wc.heap[gb541]? = some (.cells #[.int .i64 1, .int .i64 0] 29 (0, 0))) ∧ Aside0 (Below w.heap.size w wc))
     case first =>
      have H := HC16.out
      clear HC16
      by_cases c21 : a2 < 0
      ·rw [if_pos c21] at H
       have c21b0 : decide (a2 < 0) = true := decide_eq_true c21
       clear c21
       (first | rw [c21b0] | (simp only [i64_w, i32_w]; rw [c21b0]) | skip)
       have H' := Aside0.mk H
       clear H
       go_wp2
       go_meet
       case rel => exact ⟨_, (wrap64 (-a2)), (by first | rfl | (simp; done) | (simp [*]; done)), H', ⟨by have := HJ5.out; first | omega | exact Nat.le_refl _⟩, ⟨by (with_reducible repeat (first | refine blk_drewN ?_ _ | refine blk_drew ?_ | refine blk_alloc ?_ _)); refine blk_far ?_ NB538_541.out _; (with_reducible repeat (first | refine blk_drewN ?_ _ | refine blk_drew ?_ | refine blk_alloc ?_ _)); refine blk_far ?_ NB538_541.out _; (with_reducible repeat (first | refine blk_drewN ?_ _ | refine blk_drew ?_ | refine blk_alloc ?_ _)); exact BK538.out⟩, ⟨by (with_reducible repeat (first | refine blk_drewN ?_ _ | refine blk_drew ?_ | refine blk_alloc ?_ _)); refine blk_far ?_ NB539_541.out _; (with_reducible repeat (first | refine blk_drewN ?_ _ | refine blk_drew ?_ | refine blk_alloc ?_ _)); refine blk_far ?_ NB539_541.out _; (with_reducible repeat (first | refine blk_drewN ?_ _ | refine blk_drew ?_ | refine blk_alloc ?_ _)); exact BK539.out⟩, ⟨by (with_reducible repeat (first | refine blk_drewN ?_ _ | refine blk_drew ?_ | refine blk_alloc ?_ _)); refine blk_put (cs := #[.int .i64 1, .int .i64 0]) ?_ 1 _ rfl; (with_reducible repeat (first | refine blk_drewN ?_ _ | refine blk_drew ?_ | refine blk_alloc ?_ _)); refine blk_put (cs := #[.int .i64 0, .int .i64 0]) ?_ 0 _ rfl; (with_reducible repeat (first | refine blk_drewN ?_ _ | refine blk_drew ?_ | refine blk_alloc ?_ _)); exact BK541.out⟩, ⟨bw HB⟩⟩
      ·rw [if_neg c21] at H
       have c21b0 : decide (a2 < 0) = false := decide_eq_false c21
       clear c21
       (first | rw [c21b0] | (simp only [i64_w, i32_w]; rw [c21b0]) | skip)
       have H' := Aside0.mk H
       clear H
       go_wp2
       go_meet
       case rel => exact ⟨_, (a2), (by first | rfl | (simp; done) | (simp [*]; done)), H', ⟨by have := HJ5.out; first | omega | exact Nat.le_refl _⟩, ⟨by (with_reducible repeat (first | refine blk_drewN ?_ _ | refine blk_drew ?_ | refine blk_alloc ?_ _)); refine blk_far ?_ NB538_541.out _; (with_reducible repeat (first | refine blk_drewN ?_ _ | refine blk_drew ?_ | refine blk_alloc ?_ _)); refine blk_far ?_ NB538_541.out _; (with_reducible repeat (first | refine blk_drewN ?_ _ | refine blk_drew ?_ | refine blk_alloc ?_ _)); exact BK538.out⟩, ⟨by (with_reducible repeat (first | refine blk_drewN ?_ _ | refine blk_drew ?_ | refine blk_alloc ?_ _)); refine blk_far ?_ NB539_541.out _; (with_reducible repeat (first | refine blk_drewN ?_ _ | refine blk_drew ?_ | refine blk_alloc ?_ _)); refine blk_far ?_ NB539_541.out _; (with_reducible repeat (first | refine blk_drewN ?_ _ | refine blk_drew ?_ | refine blk_alloc ?_ _)); exact BK539.out⟩, ⟨by (with_reducible repeat (first | refine blk_drewN ?_ _ | refine blk_drew ?_ | refine blk_alloc ?_ _)); refine blk_put (cs := #[.int .i64 1, .int .i64 0]) ?_ 1 _ rfl; (with_reducible repeat (first | refine blk_drewN ?_ _ | refine blk_drew ?_ | refine blk_alloc ?_ _)); refine blk_put (cs := #[.int .i64 0, .int .i64 0]) ?_ 0 _ rfl; (with_reducible repeat (first | refine blk_drewN ?_ _ | refine blk_drew ?_ | refine blk_alloc ?_ _)); exact BK541.out⟩, ⟨bw HB⟩⟩
     case rest =>
      clear HC16
      try clear c1
      try clear c2
      try clear p2
      try clear c5
      try clear c5b0
      try clear c5b1
      try clear p6
      try clear c9
      try clear c12
      try clear c12b0
      try clear c13
      try clear c14
      try clear c18
      try clear c19
      try clear c20
      try clear c21
      try clear c21b0
      try clear hcz10_0
      try clear hcz10_1
      try clear hcz15_0
      try clear hcz15_1
      try clear hcz20_0
      try clear hcz20_1
      try clear hfz10_0
      try clear hfz10_1
      try clear hfz15_0
      try clear hfz15_1
      try clear hfz20_0
      try clear hfz20_1
      try clear p2
      obtain ⟨kq, x10_15, rfl, HA, HJ15, BK538, BK539, BK541, HB⟩ := hcut
      cases kq with
      | zero => exact absurd HA.out (by simp [environref02_Pow.j1])
      | succ kj15 =>
       have H := HA.out
       clear HA
       simp only [environref02_Pow.j1] at H
       have H' := Aside0.mk H
       clear H
       go_wp2
       go_loopg [10] kj15 (fun kq v10 w' => ∃ (x10_3 : Int) (x540000_3 : Int) (x540001_3 : Int) (x542000_3 : Int) (x542001_3 : Int), v10 = .int .i64 x10_3 ∧ Aside0 (environref02_Pow.l0 kq a0 a2 x10_3 a1_0 a1_1 x542000_3 x542001_3 = some (r1, r2, r3)) ∧ Aside0 (kq ≤ kj15) ∧ Aside0 (w'.heap[gb538]? = some (.cells #[.int .i64 a1_0, .int .i64 a1_1] 29 (0, 0))) ∧ Aside0 (w'.heap[gb539]? = some (.cells #[.int .i64 x540000_3, .int .i64 x540001_3] 29 (0, 0))) ∧ Aside0 (w'.heap[gb541]? = some (.cells #[.int .i64 x542000_3, .int .i64 x542001_3] 29 (0, 0))) ∧ Aside0 (Below w.heap.size w w'))
       case atStart => exact ⟨(x10_15), (0), (0), (1), (0), (by first | rfl | (simp; done) | (simp [*]; done)), H', ⟨Nat.le_refl _⟩, ⟨by (with_reducible repeat (first | refine blk_drewN ?_ _ | refine blk_drew ?_ | refine blk_alloc ?_ _)); exact BK538.out⟩, ⟨by (with_reducible repeat (first | refine blk_drewN ?_ _ | refine blk_drew ?_ | refine blk_alloc ?_ _)); exact BK539.out⟩, ⟨by (with_reducible repeat (first | refine blk_drewN ?_ _ | refine blk_drew ?_ | refine blk_alloc ?_ _)); exact BK541.out⟩, ⟨bw HB⟩⟩
       case round =>
        clear H'
        try clear c1
        try clear c2
        try clear p2
        try clear c5
        try clear c5b0
        try clear c5b1
        try clear p6
        try clear c9
        try clear c12
        try clear c12b0
        try clear c13
        try clear c14
        try clear c18
        try clear c19
        try clear c20
        try clear c21
        try clear c21b0
        try clear hcz10_0
        try clear hcz10_1
        try clear hcz15_0
        try clear hcz15_1
        try clear hcz20_0
        try clear hcz20_1
        try clear hfz10_0
        try clear hfz10_1
        try clear hfz15_0
        try clear hfz15_1
        try clear hfz20_0
        try clear hfz20_1
        try clear p2
        try clear p6
        obtain ⟨x10_3, x540000_3, x540001_3, x542000_3, x542001_3, rfl, HA, HK3, BK538, BK539, BK541, HB⟩ := hrel
        cases gk with
        | zero => exact absurd HA.out (by simp [environref02_Pow.l0])
        | succ k3 =>
         have H := HA.out
         clear HA
         simp only [environref02_Pow.l0] at H
         by_cases c22 : x10_3 > 0
         ·rw [if_pos c22] at H
          have c22b0 : decide (0 < x10_3) = true := decide_eq_true c22
          clear c22
          replace H := Option.bind_eq_some_iff.mp H
          obtain ⟨⟨t542, t543, t544⟩, A230, H⟩ := H
          replace H : (if t544 = 0 then (environref02_Pow.l0 k3 a0 a2 (wrap64 (x10_3 - 1)) a1_0 a1_1 t542 t543) else (some (0, 0, t544))) = some (r1, r2, r3) := H
          have A23 := Aside0.mk A230
          clear A230
          by_cases c24 : t544 = 0
          ·rw [if_pos c24] at H
           have c24b0 : (t544 == 0) = true := beq_iff_eq.mpr c24
           have c24b1 : (t544 != 0) = false := bne_eq_false_iff_eq.mpr c24
           clear c24
           have H' := Aside0.mk H
           clear H
           have hnb25 := NB541_538.out
           have hnc25 := NB538_541.out
           have hnb26 := NB541_539.out
           have hnc26 := NB539_541.out
           have hcz27_0 : wr.cell? ⟨gb541, 0, none⟩ = some (.int .i64 x542000_3) := (blk_cell BK541.out 0).trans rfl
           have hcz27_1 : wr.cell? ⟨gb541, 1, none⟩ = some (.int .i64 x542001_3) := (blk_cell BK541.out 1).trans rfl
           have hfz27_0 := blk_frozen BK541.out 0
           have hfz27_1 := blk_frozen BK541.out 1
           have hnb28 := NB538_539.out
           have hnc28 := NB539_538.out
           have hcz29_0 : wr.cell? ⟨gb538, 0, none⟩ = some (.int .i64 a1_0) := (blk_cell BK538.out 0).trans rfl
           have hcz29_1 : wr.cell? ⟨gb538, 1, none⟩ = some (.int .i64 a1_1) := (blk_cell BK538.out 1).trans rfl
           have hfz29_0 := blk_frozen BK538.out 0
           have hfz29_1 := blk_frozen BK538.out 1
           go_wp2_with (first | ((with_reducible refine gate_callee (f := 26) rfl ?_); refine goesL_ (some 42) rfl rfl Try.func26 (by kernel_rfl) rfl #[.int .i64 a0, .int .i64 0, .agg #[.int .i64 x542000_3, .int .i64 x542001_3], .agg #[.int .i64 a1_0, .int .i64 a1_1]] rfl (by (try simp only [List.map_toArray, List.map_cons, List.map_nil]); first | done | rfl | (simp only [List.length_drop, List.length_take]; rfl)) ?_; (with_reducible refine (environref02_Mul.calls k3 a0 0 x542000_3 x542001_3 a1_0 a1_1 t542 t543 t544 _ A23.out).mono ?_); rintro e w30 ⟨rfl, hb⟩; refine ⟨_, rfl, ?_⟩; replace BK538 := Aside0.mk (bb BK538 hb); replace BK539 := Aside0.mk (bb BK539 hb); replace BK541 := Aside0.mk (bb BK541 hb); replace HB := Aside0.mk (below_step (bw HB) hb); (try clear hb); (try clear hb2); (try clear hk); (try clear hi)) | ((with_reducible refine gate_dst (N := 11) rfl ?_); refine box_event ?hg (N := 11) ?hd (cs := #[.int .i64 0, .int .i64 0]) (t := 29) ?hr ?_; (case hd => rfl); (case hg => rfl); (case hr => first | (go_simp; done) | (go_simp; rfl)); intro gb545 hg w31 hbox hb; have BK545 := Aside0.mk (hbox); have GW545 := Aside0.mk (bs HB hg : w.heap.size ≤ gb545); replace HB := Aside0.mk (below_step (bw HB) hb); have NB538_545 := Aside0.mk (nl BK538 hg); have NB545_538 := Aside0.mk (ng BK538 hg); replace BK538 := Aside0.mk (bb BK538 hb); have NB539_545 := Aside0.mk (nl BK539 hg); have NB545_539 := Aside0.mk (ng BK539 hg); replace BK539 := Aside0.mk (bb BK539 hb); have NB541_545 := Aside0.mk (nl BK541 hg); have NB545_541 := Aside0.mk (ng BK541 hg); replace BK541 := Aside0.mk (bb BK541 hb); clear hb hbox hg; have hnb32 := NB545_538.out; have hnc32 := NB538_545.out; have hnb33 := NB545_539.out; have hnc33 := NB539_545.out; have hnb34 := NB545_541.out; have hnc34 := NB541_545.out; obtain ⟨hcz35_0, hcz35_1, hfz35_0, hfz35_1⟩ := cf2 BK545; obtain ⟨hcz36_0, hcz36_1, hfz36_0, hfz36_1⟩ := cf2 BK541))
           go_roundg k3
           case measure => have := HJ5.out; have := HJ15.out; have := HK3.out; omega
           case rel => exact ⟨(wrap64 (x10_3 - 1)), (x540000_3), (x540001_3), (t542), (t543), (by first | rfl | (simp; done) | (simp [*]; done)), H', ⟨by have := HJ5.out; have := HJ15.out; have := HK3.out; omega⟩, ⟨by (with_reducible repeat (first | refine blk_drewN ?_ _ | refine blk_drew ?_ | refine blk_alloc ?_ _)); refine blk_far ?_ NB538_541.out _; (with_reducible repeat (first | refine blk_drewN ?_ _ | refine blk_drew ?_ | refine blk_alloc ?_ _)); refine blk_far ?_ NB538_541.out _; (with_reducible repeat (first | refine blk_drewN ?_ _ | refine blk_drew ?_ | refine blk_alloc ?_ _)); refine blk_far ?_ NB538_545.out _; (with_reducible repeat (first | refine blk_drewN ?_ _ | refine blk_drew ?_ | refine blk_alloc ?_ _)); refine blk_far ?_ NB538_545.out _; (with_reducible repeat (first | refine blk_drewN ?_ _ | refine blk_drew ?_ | refine blk_alloc ?_ _)); exact BK538.out⟩, ⟨by (with_reducible repeat (first | refine blk_drewN ?_ _ | refine blk_drew ?_ | refine blk_alloc ?_ _)); refine blk_far ?_ NB539_541.out _; (with_reducible repeat (first | refine blk_drewN ?_ _ | refine blk_drew ?_ | refine blk_alloc ?_ _)); refine blk_far ?_ NB539_541.out _; (with_reducible repeat (first | refine blk_drewN ?_ _ | refine blk_drew ?_ | refine blk_alloc ?_ _)); refine blk_far ?_ NB539_545.out _; (with_reducible repeat (first | refine blk_drewN ?_ _ | refine blk_drew ?_ | refine blk_alloc ?_ _)); refine blk_far ?_ NB539_545.out _; (with_reducible repeat (first | refine blk_drewN ?_ _ | refine blk_drew ?_ | refine blk_alloc ?_ _)); exact BK539.out⟩, ⟨by (with_reducible repeat (first | refine blk_drewN ?_ _ | refine blk_drew ?_ | refine blk_alloc ?_ _)); refine blk_put (cs := #[.int .i64 t542, .int .i64 x542001_3]) ?_ 1 _ rfl; (with_reducible repeat (first | refine blk_drewN ?_ _ | refine blk_drew ?_ | refine blk_alloc ?_ _)); refine blk_put (cs := #[.int .i64 x542000_3, .int .i64 x542001_3]) ?_ 0 _ rfl; (with_reducible repeat (first | refine blk_drewN ?_ _ | refine blk_drew ?_ | refine blk_alloc ?_ _)); refine blk_far ?_ NB541_545.out _; (with_reducible repeat (first | refine blk_drewN ?_ _ | refine blk_drew ?_ | refine blk_alloc ?_ _)); refine blk_far ?_ NB541_545.out _; (with_reducible repeat (first | refine blk_drewN ?_ _ | refine blk_drew ?_ | refine blk_alloc ?_ _)); exact BK541.out⟩, ⟨bw HB⟩⟩
          ·rw [if_neg c24] at H
           have c24b0 : (t544 == 0) = false := beq_eq_false_iff_ne.mpr c24
           have c24b1 : (t544 != 0) = true := bne_iff_ne.mpr c24
           simp only [Option.some.injEq, Prod.mk.injEq] at H
           obtain ⟨rfl, rfl, rfl⟩ := H
           have hnb37 := NB541_538.out
           have hnc37 := NB538_541.out
           have hnb38 := NB541_539.out
           have hnc38 := NB539_541.out
           have hcz39_0 : wr.cell? ⟨gb541, 0, none⟩ = some (.int .i64 x542000_3) := (blk_cell BK541.out 0).trans rfl
           have hcz39_1 : wr.cell? ⟨gb541, 1, none⟩ = some (.int .i64 x542001_3) := (blk_cell BK541.out 1).trans rfl
           have hfz39_0 := blk_frozen BK541.out 0
           have hfz39_1 := blk_frozen BK541.out 1
           have hnb40 := NB538_539.out
           have hnc40 := NB539_538.out
           have hcz41_0 : wr.cell? ⟨gb538, 0, none⟩ = some (.int .i64 a1_0) := (blk_cell BK538.out 0).trans rfl
           have hcz41_1 : wr.cell? ⟨gb538, 1, none⟩ = some (.int .i64 a1_1) := (blk_cell BK538.out 1).trans rfl
           have hfz41_0 := blk_frozen BK538.out 0
           have hfz41_1 := blk_frozen BK538.out 1
           go_wp2_with (first | ((with_reducible refine gate_callee (f := 26) rfl ?_); refine goesL_ (some 42) rfl rfl Try.func26 (by kernel_rfl) rfl #[.int .i64 a0, .int .i64 0, .agg #[.int .i64 x542000_3, .int .i64 x542001_3], .agg #[.int .i64 a1_0, .int .i64 a1_1]] rfl (by (try simp only [List.map_toArray, List.map_cons, List.map_nil]); first | done | rfl | (simp only [List.length_drop, List.length_take]; rfl)) ?_; (with_reducible refine (environref02_Mul.calls k3 a0 0 x542000_3 x542001_3 a1_0 a1_1 t542 t543 t544 _ A23.out).mono ?_); rintro e w42 ⟨rfl, hb⟩; refine ⟨_, rfl, ?_⟩; replace BK538 := Aside0.mk (bb BK538 hb); replace BK539 := Aside0.mk (bb BK539 hb); replace BK541 := Aside0.mk (bb BK541 hb); replace HB := Aside0.mk (below_step (bw HB) hb); (try clear hb); (try clear hb2); (try clear hk); (try clear hi)) | ((with_reducible refine gate_dst (N := 11) rfl ?_); refine box_event ?hg (N := 11) ?hd (cs := #[.int .i64 0, .int .i64 0]) (t := 29) ?hr ?_; (case hd => rfl); (case hg => rfl); (case hr => first | (go_simp; done) | (go_simp; rfl)); intro gb545 hg w43 hbox hb; have BK545 := Aside0.mk (hbox); have GW545 := Aside0.mk (bs HB hg : w.heap.size ≤ gb545); replace HB := Aside0.mk (below_step (bw HB) hb); have NB538_545 := Aside0.mk (nl BK538 hg); have NB545_538 := Aside0.mk (ng BK538 hg); replace BK538 := Aside0.mk (bb BK538 hb); have NB539_545 := Aside0.mk (nl BK539 hg); have NB545_539 := Aside0.mk (ng BK539 hg); replace BK539 := Aside0.mk (bb BK539 hb); have NB541_545 := Aside0.mk (nl BK541 hg); have NB545_541 := Aside0.mk (ng BK541 hg); replace BK541 := Aside0.mk (bb BK541 hb); clear hb hbox hg; have hnb44 := NB545_538.out; have hnc44 := NB538_545.out; have hnb45 := NB545_539.out; have hnc45 := NB539_545.out; have hnb46 := NB545_541.out; have hnc46 := NB541_545.out; obtain ⟨hcz47_0, hcz47_1, hfz47_0, hfz47_1⟩ := cf2 BK545; obtain ⟨hcz48_0, hcz48_1, hfz48_0, hfz48_1⟩ := cf2 BK539))
           refine bodyPost_ret (results_ct rfl _ _ gb539 29 #[.int .i64 0, .int .i64 0] (0, 0) _ rfl (by (with_reducible repeat (first | refine blk_drewN ?_ _ | refine blk_drew ?_ | refine blk_alloc ?_ _)); refine blk_put (cs := #[.int .i64 0, .int .i64 x540001_3]) ?_ 1 _ rfl; (with_reducible repeat (first | refine blk_drewN ?_ _ | refine blk_drew ?_ | refine blk_alloc ?_ _)); refine blk_put (cs := #[.int .i64 x540000_3, .int .i64 x540001_3]) ?_ 0 _ rfl; (with_reducible repeat (first | refine blk_drewN ?_ _ | refine blk_drew ?_ | refine blk_alloc ?_ _)); refine blk_far ?_ NB539_545.out _; (with_reducible repeat (first | refine blk_drewN ?_ _ | refine blk_drew ?_ | refine blk_alloc ?_ _)); refine blk_far ?_ NB539_545.out _; (with_reducible repeat (first | refine blk_drewN ?_ _ | refine blk_drew ?_ | refine blk_alloc ?_ _)); exact BK539.out) Try.underlying29 rfl (by kernel_rfl)) rfl ?_
           exact ⟨by first | rfl | (simp [errW_none, errW_some] <;> rfl) | (simp [*, errW_none, errW_some] <;> rfl), bw HB⟩
         ·rw [if_neg c22] at H
          have c22b0 : decide (0 < x10_3) = false := decide_eq_false c22
          clear c22
          by_cases c49 : a2 < 0
          ·rw [if_pos c49] at H
           have c49b0 : decide (a2 < 0) = true := decide_eq_true c49
           clear c49
           replace H := Option.bind_eq_some_iff.mp H
           obtain ⟨⟨t546, t547, t548⟩, A500, H⟩ := H
           replace H : (some (t546, t547, t548)) = some (r1, r2, r3) := H
           have A50 := Aside0.mk A500
           clear A500
           simp only [Option.some.injEq, Prod.mk.injEq] at H
           obtain ⟨rfl, rfl, rfl⟩ := H
           have hnb51 := NB541_538.out
           have hnc51 := NB538_541.out
           have hnb52 := NB541_539.out
           have hnc52 := NB539_541.out
           have hcz53_0 : wr.cell? ⟨gb541, 0, none⟩ = some (.int .i64 x542000_3) := (blk_cell BK541.out 0).trans rfl
           have hcz53_1 : wr.cell? ⟨gb541, 1, none⟩ = some (.int .i64 x542001_3) := (blk_cell BK541.out 1).trans rfl
           have hfz53_0 := blk_frozen BK541.out 0
           have hfz53_1 := blk_frozen BK541.out 1
           go_wp2_with (first | ((with_reducible refine gate_callee (f := 28) rfl ?_); refine goesL_ (some 55) rfl rfl Try.func28 (by kernel_rfl) rfl #[.int .i64 a0, .int .i64 0, .agg #[.int .i64 1, .int .i64 0], .agg #[.int .i64 x542000_3, .int .i64 x542001_3]] rfl (by (try simp only [List.map_toArray, List.map_cons, List.map_nil]); first | done | rfl | (simp only [List.length_drop, List.length_take]; rfl)) ?_; (with_reducible refine (environref02_Div.calls k3 a0 0 1 0 x542000_3 x542001_3 t546 t547 t548 _ A50.out).mono ?_); rintro e w54 ⟨rfl, hb⟩; refine ⟨_, rfl, ?_⟩; replace BK538 := Aside0.mk (bb BK538 hb); replace BK539 := Aside0.mk (bb BK539 hb); replace BK541 := Aside0.mk (bb BK541 hb); replace HB := Aside0.mk (below_step (bw HB) hb); (try clear hb); (try clear hb2); (try clear hk); (try clear hi); have hnb55 := NB539_538.out; have hnc55 := NB538_539.out; obtain ⟨hcz56_0, hcz56_1, hfz56_0, hfz56_1⟩ := cf2 BK539))
           refine bodyPost_ret (results_ct rfl _ _ gb539 29 #[.int .i64 t546, .int .i64 t547] (0, 0) _ rfl (by (with_reducible repeat (first | refine blk_drewN ?_ _ | refine blk_drew ?_ | refine blk_alloc ?_ _)); refine blk_put (cs := #[.int .i64 t546, .int .i64 x540001_3]) ?_ 1 _ rfl; (with_reducible repeat (first | refine blk_drewN ?_ _ | refine blk_drew ?_ | refine blk_alloc ?_ _)); refine blk_put (cs := #[.int .i64 x540000_3, .int .i64 x540001_3]) ?_ 0 _ rfl; (with_reducible repeat (first | refine blk_drewN ?_ _ | refine blk_drew ?_ | refine blk_alloc ?_ _)); exact BK539.out) Try.underlying29 rfl (by kernel_rfl)) rfl ?_
           exact ⟨by first | rfl | (simp [errW_none, errW_some] <;> rfl) | (simp [*, errW_none, errW_some] <;> rfl), bw HB⟩
          ·rw [if_neg c49] at H
           have c49b0 : decide (a2 < 0) = false := decide_eq_false c49
           clear c49
           simp only [Option.some.injEq, Prod.mk.injEq] at H
           obtain ⟨rfl, rfl, rfl⟩ := H
           have hnb57 := NB541_538.out
           have hnc57 := NB538_541.out
           have hnb58 := NB541_539.out
           have hnc58 := NB539_541.out
           have hcz59_0 : wr.cell? ⟨gb541, 0, none⟩ = some (.int .i64 x542000_3) := (blk_cell BK541.out 0).trans rfl
           have hcz59_1 : wr.cell? ⟨gb541, 1, none⟩ = some (.int .i64 x542001_3) := (blk_cell BK541.out 1).trans rfl
           have hfz59_0 := blk_frozen BK541.out 0
           have hfz59_1 := blk_frozen BK541.out 1
           have hnb60 := NB539_538.out
           have hnc60 := NB538_539.out
           have hcz61_0 : wr.cell? ⟨gb539, 0, none⟩ = some (.int .i64 x540000_3) := (blk_cell BK539.out 0).trans rfl
           have hcz61_1 : wr.cell? ⟨gb539, 1, none⟩ = some (.int .i64 x540001_3) := (blk_cell BK539.out 1).trans rfl
           have hfz61_0 := blk_frozen BK539.out 0
           have hfz61_1 := blk_frozen BK539.out 1
           go_wp2
           refine bodyPost_ret (results_ct rfl _ _ gb539 29 #[.int .i64 x542000_3, .int .i64 x542001_3] (0, 0) _ rfl (by (with_reducible repeat (first | refine blk_drewN ?_ _ | refine blk_drew ?_ | refine blk_alloc ?_ _)); refine blk_put (cs := #[.int .i64 x542000_3, .int .i64 x540001_3]) ?_ 1 _ rfl; (with_reducible repeat (first | refine blk_drewN ?_ _ | refine blk_drew ?_ | refine blk_alloc ?_ _)); refine blk_put (cs := #[.int .i64 x540000_3, .int .i64 x540001_3]) ?_ 0 _ rfl; (with_reducible repeat (first | refine blk_drewN ?_ _ | refine blk_drew ?_ | refine blk_alloc ?_ _)); exact BK539.out) Try.underlying29 rfl (by kernel_rfl)) rfl ?_
           exact ⟨by first | rfl | (simp [errW_none, errW_some] <;> rfl) | (simp [*, errW_none, errW_some] <;> rfl), bw HB⟩
 ·rw [if_neg c5] at H
  have c5b0 : (t540 == 0) = false := beq_eq_false_iff_ne.mpr c5
  have c5b1 : (t540 != 0) = true := bne_iff_ne.mpr c5
  simp only [Option.some.injEq, Prod.mk.injEq] at H
  obtain ⟨rfl, rfl, rfl⟩ := H
  go_enter Try.func20, Try.ntmps20
  go_wp2_with (first | ((with_reducible refine gate_dst (N := 4) rfl ?_); refine box_event ?hg (N := 4) ?hd (cs := #[.int .i64 a1_0, .int .i64 a1_1]) (t := 29) ?hr ?_; (case hd => rfl); (case hg => rfl); (case hr => first | (go_simp; done) | (go_simp; rfl)); intro gb538 hg w62 hbox hb; have BK538 := Aside0.mk (hbox); have GW538 := Aside0.mk (bs HB hg : w.heap.size ≤ gb538); replace HB := Aside0.mk (below_step (bw HB) hb); clear hb hbox hg) | ((with_reducible refine gate_dst (N := 6) rfl ?_); refine box_event ?hg (N := 6) ?hd (cs := #[.int .i64 0, .int .i64 0]) (t := 29) ?hr ?_; (case hd => rfl); (case hg => rfl); (case hr => first | (go_simp; done) | (go_simp; rfl)); intro gb539 hg w63 hbox hb; have BK539 := Aside0.mk (hbox); have GW539 := Aside0.mk (bs HB hg : w.heap.size ≤ gb539); replace HB := Aside0.mk (below_step (bw HB) hb); have NB538_539 := Aside0.mk (nl BK538 hg); have NB539_538 := Aside0.mk (ng BK538 hg); replace BK538 := Aside0.mk (bb BK538 hb); clear hb hbox hg; have hnb64 := NB538_539.out; have hnc64 := NB539_538.out; obtain ⟨hcz65_0, hcz65_1, hfz65_0, hfz65_1⟩ := cf2 BK538) | ((with_reducible refine gate_callee (f := 53) rfl ?_); refine goesL_ (some 16) rfl rfl Try.func53 (by kernel_rfl) rfl #[.int .i64 a0, .int .i64 0, .agg #[.int .i64 a1_0, .int .i64 a1_1], .agg #[.int .i64 0, .int .i64 0]] rfl (by (try simp only [List.map_toArray, List.map_cons, List.map_nil]); first | done | rfl | (simp only [List.length_drop, List.length_take]; rfl)) ?_; (with_reducible refine (environref02_right.calls k a0 0 a1_0 a1_1 0 0 t540 _ A4.out).mono ?_); rintro e w66 ⟨rfl, hb⟩; refine ⟨_, rfl, ?_⟩; replace BK538 := Aside0.mk (bb BK538 hb); replace BK539 := Aside0.mk (bb BK539 hb); replace HB := Aside0.mk (below_step (bw HB) hb); (try clear hb); (try clear hb2); (try clear hk); (try clear hi); obtain ⟨hcz67_0, hcz67_1, hfz67_0, hfz67_1⟩ := cf2 BK539))
  refine bodyPost_ret (results_ct rfl _ _ gb539 29 #[.int .i64 0, .int .i64 0] (0, 0) _ rfl (by (with_reducible repeat (first | refine blk_drewN ?_ _ | refine blk_drew ?_ | refine blk_alloc ?_ _)); refine blk_put (cs := #[.int .i64 0, .int .i64 0]) ?_ 1 _ rfl; (with_reducible repeat (first | refine blk_drewN ?_ _ | refine blk_drew ?_ | refine blk_alloc ?_ _)); refine blk_put (cs := #[.int .i64 0, .int .i64 0]) ?_ 0 _ rfl; (with_reducible repeat (first | refine blk_drewN ?_ _ | refine blk_drew ?_ | refine blk_alloc ?_ _)); exact BK539.out) Try.underlying29 rfl (by kernel_rfl)) rfl ?_
  exact ⟨by first | rfl | (simp [errW_none, errW_some] <;> rfl) | (simp [*, errW_none, errW_some] <;> rfl), bw HB⟩
end Go.Proofs.Ytamkjpjibkabaaa.PR
