-- written by a program of this session out of the kit's print (its words and its form)
import Derived.Test.YtamkjpjibkabaaaPRgRa
import Derived.Test.YtamkjpjibkabaaaPRgRd
import Derived.Test.YtamkjpjibkabaaaPRgRi
import Derived.Test.YtamkjpjibkabaaaPRsq
import Derived.Test.YtamkjpjibkabaaaPRx0
namespace Go.Proofs.Ytamkjpjibkabaaa.PR
open Go.RowKit Go.Proofs.YtamkjpjibkabaaaW.PrintWords Go.Proofs.YtamkjpjibkabaaaW.PrintLast Go.Proofs.YtamkjpjibkabaaaW.PrintMore
attribute [local go_sem] max2_int min2_int max_two min_two max_three min_three max_four min_four   -- for this text's walks alone
set_option linter.unusedVariables false
set_option linter.unusedSimpArgs false

/-! ### environref02_Sqrt: function 30 -/
def environref02_Sqrt.j0 : Nat → Int → Int → Int → Int → Int → Option (Int × Int × Int)
 | 0, _, _, _, _, _ => none
 | k + 1, x0, x1, x9, x667000, x667001 => (environref02_Of.f k x667000).bind fun t669 => ((environref02_shift.f t669 x9).bind fun t672 => ((environref02_root.f k t672).bind fun bt675 => ((environref02_Rounded.f k x0 x1 false bt675.1 (wrap64 (Int.tdiv (wrap64 (x667001 - x9)) 2)) (decide ((bt675.2.length : Int) > 0))).bind fun bt681 => (some (bt681.1, bt681.2.1, bt681.2.2)))))
def environref02_Sqrt.f (k : Nat) (a0 : Int) (a1 : Int) (a2_0 : Int) (a2_1 : Int) : Option (Int × Int × Int) := (environref02_right.f k a0 a1 a2_0 a2_1 0 0).bind fun t668 => (if t668 = 0 then (if a2_0 < 0 then (some (0, 0, 11)) else (if (Int.tmod a2_1 2) = 0 then (environref02_Sqrt.j0 k a0 a1 60 a2_0 a2_1) else (environref02_Sqrt.j0 k a0 a1 61 a2_0 a2_1))) else (some (0, 0, t668)))
theorem environref02_Sqrt.mono_l : ∀ k, (∀ y0 y1 y2 y3 y4, LeO (environref02_Sqrt.j0 k y0 y1 y2 y3 y4) (environref02_Sqrt.j0 (k + 1) y0 y1 y2 y3 y4))
 | 0 => fun _ _ _ _ _ r h => by simp [environref02_Sqrt.j0] at h
 | k + 1 => by
  have ih0 := environref02_Sqrt.mono_l k
  ·intro y0 y1 y2 y3 y4
   unfold environref02_Sqrt.j0
   repeat' first
   | (with_reducible exact ih0 _ _ _ _ _)
   | (with_reducible exact environref02_Of.mono _ _)
   | (with_reducible exact environref02_Rounded.mono _ _ _ _ _ _ _)
   | (with_reducible exact environref02_right.mono _ _ _ _ _ _ _)
   | (with_reducible exact environref02_root.mono _ _)
   | (with_reducible exact LeO.refl _)
   | (with_reducible exact LeO.none _)
   | (with_reducible refine LeO.ite ?_ ?_)
   | (with_reducible refine LeO.bind ?_ (fun _ => ?_))
   | exact ih0 _ _ _ _ _
   | exact environref02_Of.mono _ _
   | exact environref02_Rounded.mono _ _ _ _ _ _ _
   | exact environref02_right.mono _ _ _ _ _ _ _
   | exact environref02_root.mono _ _
   | exact LeO.none _
   | refine LeO.ite ?_ ?_
   | refine LeO.bind ?_ (fun _ => ?_)
theorem environref02_Sqrt.mono : ∀ a0 a1 a2 a3 k, LeO (environref02_Sqrt.f k a0 a1 a2 a3) (environref02_Sqrt.f (k + 1) a0 a1 a2 a3) := by
 intro a0 a1 a2 a3 k
 have ih0 := environref02_Sqrt.mono_l k
 unfold environref02_Sqrt.f
 repeat' first
   | (with_reducible exact ih0 _ _ _ _ _)
   | (with_reducible exact environref02_Of.mono _ _)
   | (with_reducible exact environref02_Rounded.mono _ _ _ _ _ _ _)
   | (with_reducible exact environref02_right.mono _ _ _ _ _ _ _)
   | (with_reducible exact environref02_root.mono _ _)
   | (with_reducible exact LeO.refl _)
   | (with_reducible exact LeO.none _)
   | (with_reducible refine LeO.ite ?_ ?_)
   | (with_reducible refine LeO.bind ?_ (fun _ => ?_))
   | exact ih0 _ _ _ _ _
   | exact environref02_Of.mono _ _
   | exact environref02_Rounded.mono _ _ _ _ _ _ _
   | exact environref02_right.mono _ _ _ _ _ _ _
   | exact environref02_root.mono _ _
   | exact LeO.none _
   | refine LeO.ite ?_ ?_
   | refine LeO.bind ?_ (fun _ => ?_)
set_option maxHeartbeats 8000000 in
set_option maxRecDepth 100000 in
theorem environref02_Sqrt.calls (k : Nat) (a0 : Int) (a1 : Int) (a2_0 : Int) (a2_1 : Int) (r1 : Int) (r2 : Int) (r3 : Int) (w : World) (h : environref02_Sqrt.f k a0 a1 a2_0 a2_1 = some (r1, r2, r3)) :
  Calls Try.prog 30 #[.int .i64 a0, .int .i64 a1, .agg #[.int .i64 a2_0, .int .i64 a2_1]] w fun e w' => e = .returned (.tuple #[.agg #[.int .i64 r1, .int .i64 r2], .int .i64 r3]) ∧ Below w.heap.size w w' := by
 have hu29 := Try.underlying29
 have hu68 := Try.underlying68
 have HB := Aside0.mk (Below.refl w.heap.size w)
 have H : ((environref02_right.f k a0 a1 a2_0 a2_1 0 0).bind fun t668 => (if t668 = 0 then (if a2_0 < 0 then (some (0, 0, 11)) else (if (Int.tmod a2_1 2) = 0 then (environref02_Sqrt.j0 k a0 a1 60 a2_0 a2_1) else (environref02_Sqrt.j0 k a0 a1 61 a2_0 a2_1))) else (some (0, 0, t668)))) = some (r1, r2, r3) := h
 clear h
 replace H := Option.bind_eq_some_iff.mp H
 obtain ⟨t668, A40, H⟩ := H
 replace H : (if t668 = 0 then (if a2_0 < 0 then (some (0, 0, 11)) else (if (Int.tmod a2_1 2) = 0 then (environref02_Sqrt.j0 k a0 a1 60 a2_0 a2_1) else (environref02_Sqrt.j0 k a0 a1 61 a2_0 a2_1))) else (some (0, 0, t668))) = some (r1, r2, r3) := H
 have A4 := Aside0.mk A40
 clear A40
 by_cases c5 : t668 = 0
 ·rw [if_pos c5] at H
  have c5b0 : (t668 == 0) = true := beq_iff_eq.mpr c5
  have c5b1 : (t668 != 0) = false := bne_eq_false_iff_eq.mpr c5
  clear c5
  by_cases c6 : a2_0 < 0
  ·rw [if_pos c6] at H
   have c6b0 : decide (a2_0 < 0) = true := decide_eq_true c6
   clear c6
   simp only [Option.some.injEq, Prod.mk.injEq] at H
   obtain ⟨rfl, rfl, rfl⟩ := H
   go_enter Try.func30, Try.ntmps30
   go_wp2_with (first | ((with_reducible refine gate_dst (N := 5) rfl ?_); refine box_event ?hg (N := 5) ?hd (cs := #[.int .i64 a2_0, .int .i64 a2_1]) (t := 29) ?hr ?_; (case hd => rfl); (case hg => rfl); (case hr => first | (go_simp; done) | (go_simp; rfl)); intro gb666 hg w7 hbox hb; have BK666 := Aside0.mk (hbox); have GW666 := Aside0.mk (bs HB hg : w.heap.size ≤ gb666); replace HB := Aside0.mk (below_step (bw HB) hb); clear hb hbox hg) | ((with_reducible refine gate_dst (N := 6) rfl ?_); refine box_event ?hg (N := 6) ?hd (cs := #[.int .i64 0, .int .i64 0]) (t := 29) ?hr ?_; (case hd => rfl); (case hg => rfl); (case hr => first | (go_simp; done) | (go_simp; rfl)); intro gb667 hg w8 hbox hb; have BK667 := Aside0.mk (hbox); have GW667 := Aside0.mk (bs HB hg : w.heap.size ≤ gb667); replace HB := Aside0.mk (below_step (bw HB) hb); have NB666_667 := Aside0.mk (nl BK666 hg); have NB667_666 := Aside0.mk (ng BK666 hg); replace BK666 := Aside0.mk (bb BK666 hb); clear hb hbox hg; have hnb9 := NB666_667.out; have hnc9 := NB667_666.out; obtain ⟨hcz10_0, hcz10_1, hfz10_0, hfz10_1⟩ := cf2 BK666) | ((with_reducible refine gate_callee (f := 53) rfl ?_); refine goesL_ (some 16) rfl rfl Try.func53 (by kernel_rfl) rfl #[.int .i64 a0, .int .i64 a1, .agg #[.int .i64 a2_0, .int .i64 a2_1], .agg #[.int .i64 0, .int .i64 0]] rfl (by (try simp only [List.map_toArray, List.map_cons, List.map_nil]); first | done | rfl | (simp only [List.length_drop, List.length_take]; rfl)) ?_; (with_reducible refine (environref02_right.calls k a0 a1 a2_0 a2_1 0 0 t668 _ A4.out).mono ?_); rintro e w11 ⟨rfl, hb⟩; refine ⟨_, rfl, ?_⟩; replace BK666 := Aside0.mk (bb BK666 hb); replace BK667 := Aside0.mk (bb BK667 hb); replace HB := Aside0.mk (below_step (bw HB) hb); (try clear hb); (try clear hb2); (try clear hk); (try clear hi); obtain ⟨hcz12_0, hcz12_1, hfz12_0, hfz12_1⟩ := cf2 BK666; obtain ⟨hcz13_0, hcz13_1, hfz13_0, hfz13_1⟩ := cf2 BK667))
   refine bodyPost_ret (results_ct rfl _ _ gb667 29 #[.int .i64 0, .int .i64 0] (0, 0) _ rfl (by (with_reducible repeat (first | refine blk_drewN ?_ _ | refine blk_drew ?_ | refine blk_alloc ?_ _)); refine blk_put (cs := #[.int .i64 0, .int .i64 0]) ?_ 1 _ rfl; (with_reducible repeat (first | refine blk_drewN ?_ _ | refine blk_drew ?_ | refine blk_alloc ?_ _)); refine blk_put (cs := #[.int .i64 0, .int .i64 0]) ?_ 0 _ rfl; (with_reducible repeat (first | refine blk_drewN ?_ _ | refine blk_drew ?_ | refine blk_alloc ?_ _)); exact BK667.out) Try.underlying29 rfl (by kernel_rfl)) rfl ?_
   exact ⟨by first | rfl | (simp [errW_none, errW_some] <;> rfl) | (simp [*, errW_none, errW_some] <;> rfl), bw HB⟩
  ·rw [if_neg c6] at H
   have c6b0 : decide (a2_0 < 0) = false := decide_eq_false c6
   clear c6
   have HC14 := Aside0.mk H
   clear H
   go_enter Try.func30, Try.ntmps30
   go_upto_if 28 with (first | ((with_reducible refine gate_dst (N := 5) rfl ?_); refine box_event ?hg (N := 5) ?hd (cs := #[.int .i64 a2_0, .int .i64 a2_1]) (t := 29) ?hr ?_; (case hd => rfl); (case hg => rfl); (case hr => first | (go_simp; done) | (go_simp; rfl)); intro gb666 hg w15 hbox hb; have BK666 := Aside0.mk (hbox); have GW666 := Aside0.mk (bs HB hg : w.heap.size ≤ gb666); replace HB := Aside0.mk (below_step (bw HB) hb); clear hb hbox hg) | ((with_reducible refine gate_dst (N := 6) rfl ?_); refine box_event ?hg (N := 6) ?hd (cs := #[.int .i64 0, .int .i64 0]) (t := 29) ?hr ?_; (case hd => rfl); (case hg => rfl); (case hr => first | (go_simp; done) | (go_simp; rfl)); intro gb667 hg w16 hbox hb; have BK667 := Aside0.mk (hbox); have GW667 := Aside0.mk (bs HB hg : w.heap.size ≤ gb667); replace HB := Aside0.mk (below_step (bw HB) hb); have NB666_667 := Aside0.mk (nl BK666 hg); have NB667_666 := Aside0.mk (ng BK666 hg); replace BK666 := Aside0.mk (bb BK666 hb); clear hb hbox hg; have hnb17 := NB666_667.out; have hnc17 := NB667_666.out; obtain ⟨hcz18_0, hcz18_1, hfz18_0, hfz18_1⟩ := cf2 BK666) | ((with_reducible refine gate_callee (f := 53) rfl ?_); refine goesL_ (some 16) rfl rfl Try.func53 (by kernel_rfl) rfl #[.int .i64 a0, .int .i64 a1, .agg #[.int .i64 a2_0, .int .i64 a2_1], .agg #[.int .i64 0, .int .i64 0]] rfl (by (try simp only [List.map_toArray, List.map_cons, List.map_nil]); first | done | rfl | (simp only [List.length_drop, List.length_take]; rfl)) ?_; (with_reducible refine (environref02_right.calls k a0 a1 a2_0 a2_1 0 0 t668 _ A4.out).mono ?_); rintro e w19 ⟨rfl, hb⟩; refine ⟨_, rfl, ?_⟩; replace BK666 := Aside0.mk (bb BK666 hb); replace BK667 := Aside0.mk (bb BK667 hb); replace HB := Aside0.mk (below_step (bw HB) hb); (try clear hb); (try clear hb2); (try clear hk); (try clear hi); obtain ⟨hcz20_0, hcz20_1, hfz20_0, hfz20_1⟩ := cf2 BK666))
   (try simp only [sx])
   go_cut [9] (fun v9 wc => ∃ (kq : Nat) (x9_13 : Int), v9 = .int .i64 x9_13 ∧ Aside0 (environref02_Sqrt.j0 kq a0 a1 x9_13 a2_0 a2_1 = some (r1, r2, r3)) ∧ Aside0 (kq ≤ k) ∧ Aside0 (wc.heap[gb666]? = some (.cells #[.int .i64 a2_0, .int .i64 a2_1] 29 (0, 0))) ∧ Aside0 (wc.heap[gb667]? = some (.cells #[.int .i64 0, .int .i64 0] 29 (0, 0))) ∧ Aside0 (Below w.heap.size w wc))
   case first =>
    have H := HC14.out
    clear HC14
    by_cases c21 : (Int.tmod a2_1 2) = 0
    ·rw [if_pos c21] at H
     have c21b0 : ((Int.tmod a2_1 2) == 0) = true := beq_iff_eq.mpr c21
     have c21b1 : ((Int.tmod a2_1 2) != 0) = false := bne_eq_false_iff_eq.mpr c21
     clear c21
     (first | rw [c21b0] | (simp only [i64_w, i32_w]; rw [c21b0]) | skip)
     have H' := Aside0.mk H
     clear H
     go_wp2
     go_meet
     case rel => exact ⟨_, (60), (by first | rfl | (simp; done) | (simp [*]; done)), H', ⟨by first | omega | exact Nat.le_refl _⟩, ⟨by (with_reducible repeat (first | refine blk_drewN ?_ _ | refine blk_drew ?_ | refine blk_alloc ?_ _)); exact BK666.out⟩, ⟨by (with_reducible repeat (first | refine blk_drewN ?_ _ | refine blk_drew ?_ | refine blk_alloc ?_ _)); exact BK667.out⟩, ⟨bw HB⟩⟩
    ·rw [if_neg c21] at H
     have c21b0 : ((Int.tmod a2_1 2) == 0) = false := beq_eq_false_iff_ne.mpr c21
     have c21b1 : ((Int.tmod a2_1 2) != 0) = true := bne_iff_ne.mpr c21
     (first | rw [c21b0] | (simp only [i64_w, i32_w]; rw [c21b0]) | skip)
     have H' := Aside0.mk H
     clear H
     go_wp2
     go_meet
     case rel => exact ⟨_, (61), (by first | rfl | (simp; done) | (simp [*]; done)), H', ⟨by first | omega | exact Nat.le_refl _⟩, ⟨by (with_reducible repeat (first | refine blk_drewN ?_ _ | refine blk_drew ?_ | refine blk_alloc ?_ _)); exact BK666.out⟩, ⟨by (with_reducible repeat (first | refine blk_drewN ?_ _ | refine blk_drew ?_ | refine blk_alloc ?_ _)); exact BK667.out⟩, ⟨bw HB⟩⟩
   case rest =>
    clear HC14
    try clear c1
    try clear c2
    try clear p2
    try clear c3
    try clear c5
    try clear c5b0
    try clear c5b1
    try clear c6
    try clear c6b0
    try clear c9
    try clear c17
    try clear c21
    try clear c21b0
    try clear c21b1
    try clear hcz10_0
    try clear hcz10_1
    try clear hcz12_0
    try clear hcz12_1
    try clear hcz13_0
    try clear hcz13_1
    try clear hcz18_0
    try clear hcz18_1
    try clear hcz20_0
    try clear hcz20_1
    try clear hfz10_0
    try clear hfz10_1
    try clear hfz12_0
    try clear hfz12_1
    try clear hfz13_0
    try clear hfz13_1
    try clear hfz18_0
    try clear hfz18_1
    try clear hfz20_0
    try clear hfz20_1
    obtain ⟨kq, x9_13, rfl, HA, HJ13, BK666, BK667, HB⟩ := hcut
    cases kq with
    | zero => exact absurd HA.out (by simp [environref02_Sqrt.j0])
    | succ kj13 =>
     have H := HA.out
     clear HA
     simp only [environref02_Sqrt.j0] at H
     replace H := Option.bind_eq_some_iff.mp H
     obtain ⟨t669, A220, H⟩ := H
     replace H : ((environref02_shift.f t669 x9_13).bind fun t672 => ((environref02_root.f kj13 t672).bind fun bt675 => ((environref02_Rounded.f kj13 a0 a1 false bt675.1 (wrap64 (Int.tdiv (wrap64 (a2_1 - x9_13)) 2)) (decide ((bt675.2.length : Int) > 0))).bind fun bt681 => (some (bt681.1, bt681.2.1, bt681.2.2))))) = some (r1, r2, r3) := H
     have A22 := Aside0.mk A220
     clear A220
     replace H := Option.bind_eq_some_iff.mp H
     obtain ⟨t672, A230, H⟩ := H
     replace H : ((environref02_root.f kj13 t672).bind fun bt675 => ((environref02_Rounded.f kj13 a0 a1 false bt675.1 (wrap64 (Int.tdiv (wrap64 (a2_1 - x9_13)) 2)) (decide ((bt675.2.length : Int) > 0))).bind fun bt681 => (some (bt681.1, bt681.2.1, bt681.2.2)))) = some (r1, r2, r3) := H
     have A23 := Aside0.mk A230
     clear A230
     replace H := Option.bind_eq_some_iff.mp H
     obtain ⟨⟨t675, t678⟩, A240, H⟩ := H
     replace H : ((environref02_Rounded.f kj13 a0 a1 false t675 (wrap64 (Int.tdiv (wrap64 (a2_1 - x9_13)) 2)) (decide ((t678.length : Int) > 0))).bind fun bt681 => (some (bt681.1, bt681.2.1, bt681.2.2))) = some (r1, r2, r3) := H
     have A24 := Aside0.mk A240
     clear A240
     replace H := Option.bind_eq_some_iff.mp H
     obtain ⟨⟨t681, t682, t683⟩, A250, H⟩ := H
     replace H : (some (t681, t682, t683)) = some (r1, r2, r3) := H
     have A25 := Aside0.mk A250
     clear A250
     simp only [Option.some.injEq, Prod.mk.injEq] at H
     obtain ⟨rfl, rfl, rfl⟩ := H
     have hnb26 := NB666_667.out
     have hnc26 := NB667_666.out
     have hcz27_0 : wc.cell? ⟨gb666, 0, none⟩ = some (.int .i64 a2_0) := (blk_cell BK666.out 0).trans rfl
     have hcz27_1 : wc.cell? ⟨gb666, 1, none⟩ = some (.int .i64 a2_1) := (blk_cell BK666.out 1).trans rfl
     have hfz27_0 := blk_frozen BK666.out 0
     have hfz27_1 := blk_frozen BK666.out 1
     have hlen_ : (decide ((t678.length : Int) > 0)) = (decide (0 < t678.length)) := by simp
     have A25b := Aside0.mk (hlen_ ▸ A25.out)
     clear hlen_
     go_wp2_with (first | ((with_reducible refine gate_callee (f := 48) rfl ?_); refine goesL_ (some 32) rfl rfl Try.func48 (by kernel_rfl) rfl #[.int .i64 a2_0] rfl (by (try simp only [List.map_toArray, List.map_cons, List.map_nil]); first | done | rfl | (simp only [List.length_drop, List.length_take]; rfl)) ?_; (with_reducible refine (environref02_Of.calls kj13 a2_0 t669 _ A22.out).mono ?_); rintro e w28 ⟨v670, rfl, ho0, hb⟩; refine ⟨_, rfl, ?_⟩; have HO671 := Aside0.mk (Kd.R_lower ho0 (below_size (bw HB))); replace BK666 := Aside0.mk (bb BK666 hb); replace BK667 := Aside0.mk (bb BK667 hb); replace HB := Aside0.mk (below_step (bw HB) hb); (try clear hb); (try clear hb2); (try clear hk); (try clear hi); (try clear ho0); obtain ⟨Ao29, co29, eo29⟩ := Kd.R_slice HO671.out; subst eo29) | ((with_reducible refine gate_callee (f := 63) rfl ?_); refine goesL_ (some 34) rfl rfl Try.func63 (by kernel_rfl) rfl #[.slice Ao29 t669.length co29, .int .i64 x9_13] rfl (by (try simp only [List.map_toArray, List.map_cons, List.map_nil]); first | done | rfl | (simp only [List.length_drop, List.length_take]; rfl)) ?_; (with_reducible refine (environref02_shift.calls (fun k_ => some k_ = (.slice Ao29 t669.length co29 : Value).ownBlock) (.slice Ao29 t669.length co29) t669 x9_13 t672 w _ ?side1 ?side2 A23.out).mono ?_); (case side1 => repeat (first | (with_reducible first | exact HB.out | apply below_alloc | apply pw_below_drewN | apply below_drew1 | refine below_set ?_ GW666.out | refine below_set ?_ GW667.out) | exact HB.out)); (case side2 => exact Kd.R_tight rfl HO671.out); rintro e w30 ⟨v673, rfl, ho0, hb, hkp⟩; refine ⟨_, rfl, ?_⟩; replace BK666 := Aside0.mk (blk_kept (bk BK666) hkp (fun hs_ => (fun e_ => (Kd.R_ne HO671.out BK666.out (by decide)) e_) hs_)); replace BK667 := Aside0.mk (blk_kept (bk BK667) hkp (fun hs_ => (fun e_ => (Kd.R_ne HO671.out BK667.out (by decide)) e_) hs_)); have HO674 := Aside0.mk (Kd.R_mono (ok' := fun k_ => True) ho0 (fun k_ hk_ => trivial)); replace HB := Aside0.mk (hb); clear HO671; (try clear hb); (try clear hkp); (try clear ho0); obtain ⟨Ao31, co31, eo31⟩ := Kd.R_slice HO674.out; subst eo31) | ((with_reducible refine gate_callee (f := 66) rfl ?_); refine goesL_ (some 35) rfl rfl Try.func66 (by kernel_rfl) rfl #[.slice Ao31 t672.length co31] rfl (by (try simp only [List.map_toArray, List.map_cons, List.map_nil]); first | done | rfl | (simp only [List.length_drop, List.length_take]; rfl)) ?_; (with_reducible refine (environref02_root.calls kj13 (fun k_ => some k_ = (.slice Ao31 t672.length co31 : Value).ownBlock) (.slice Ao31 t672.length co31) t672 t675 t678 w _ ?side1 ?side2 A24.out).mono ?_); (case side1 => repeat (first | (with_reducible first | exact HB.out | apply below_alloc | apply pw_below_drewN | apply below_drew1 | refine below_set ?_ GW666.out | refine below_set ?_ GW667.out) | exact HB.out)); (case side2 => exact Kd.R_tight rfl HO674.out); rintro e w32 ⟨v676, v679, rfl, ho0, ho1, hb, hkp⟩; refine ⟨_, rfl, ?_⟩; have HO677 := Aside0.mk (Kd.V_mono (ok' := fun k_ => k_ ≠ gb666 ∧ k_ ≠ gb667) ho0 (fun k_ hk_ => ⟨Or.elim hk_ (fun hs_ => fun e_ => (Kd.R_ne HO674.out BK666.out (by decide)) (by rw [← e_]; exact hs_)) (fun hn_ => (Kd.freshB (g := gb666) (o := .cells #[.int .i64 a2_0, .int .i64 a2_1] 29 (0, 0)) (bk BK666) k_ hn_)), Or.elim hk_ (fun hs_ => fun e_ => (Kd.R_ne HO674.out BK667.out (by decide)) (by rw [← e_]; exact hs_)) (fun hn_ => (Kd.freshB (g := gb667) (o := .cells #[.int .i64 0, .int .i64 0] 29 (0, 0)) (bk BK667) k_ hn_))⟩)); have HO680 := Aside0.mk (Kd.V_mono (ok' := fun k_ => k_ ≠ gb666 ∧ k_ ≠ gb667) ho1 (fun k_ hk_ => ⟨Or.elim hk_ (fun hs_ => fun e_ => (Kd.R_ne HO674.out BK666.out (by decide)) (by rw [← e_]; exact hs_)) (fun hn_ => (Kd.freshB (g := gb666) (o := .cells #[.int .i64 a2_0, .int .i64 a2_1] 29 (0, 0)) (bk BK666) k_ hn_)), Or.elim hk_ (fun hs_ => fun e_ => (Kd.R_ne HO674.out BK667.out (by decide)) (by rw [← e_]; exact hs_)) (fun hn_ => (Kd.freshB (g := gb667) (o := .cells #[.int .i64 0, .int .i64 0] 29 (0, 0)) (bk BK667) k_ hn_))⟩)); replace BK666 := Aside0.mk (blk_kept (bk BK666) hkp (fun hs_ => (fun e_ => (Kd.R_ne HO674.out BK666.out (by decide)) e_) hs_)); replace BK667 := Aside0.mk (blk_kept (bk BK667) hkp (fun hs_ => (fun e_ => (Kd.R_ne HO674.out BK667.out (by decide)) e_) hs_)); replace HB := Aside0.mk (hb); clear HO674; (try clear hb); (try clear hkp); (try clear ho0); (try clear ho1); obtain ⟨hcz33_0, hcz33_1, hfz33_0, hfz33_1⟩ := cf2 BK666; obtain ⟨Ao34, co34, eo34⟩ := Kd.V_slice HO680.out; subst eo34; obtain ⟨Ao35, co35, eo35⟩ := Kd.V_slice HO677.out; subst eo35) | ((with_reducible refine gate_callee (f := 55) rfl ?_); refine goesL_ (some 50) rfl rfl Try.func55 (by kernel_rfl) rfl #[.int .i64 a0, .int .i64 a1, .agg #[.bool false, .slice Ao35 t675.length co35, .int .i64 (wrap64 (Int.tdiv (wrap64 (a2_1 - x9_13)) 2)), .bool (decide (0 < t678.length))]] rfl (by (try simp only [List.map_toArray, List.map_cons, List.map_nil]); first | done | rfl | (simp only [List.length_drop, List.length_take]; rfl)) ?_; (with_reducible refine (environref02_Rounded.calls kj13 a0 a1 false (fun k_ => (k_ ≠ gb666 ∧ k_ ≠ gb667)) _ _ t675 (wrap64 (Int.tdiv (wrap64 (a2_1 - x9_13)) 2)) (decide (0 < t678.length)) t681 t682 t683 _ ?side1 A25b.out).mono ?_); (case side1 => exact HO677.out); rintro e w36 ⟨rfl, hb⟩; refine ⟨_, rfl, ?_⟩; replace HO677 := Aside0.mk (Kd.V_below (by (with_reducible repeat (first | apply Kd.V_alloc | apply Kd.V_drewN | apply Kd.V_drew)); exact HO677.out) hb); replace HO680 := Aside0.mk (Kd.V_below (by (with_reducible repeat (first | apply Kd.V_alloc | apply Kd.V_drewN | apply Kd.V_drew)); exact HO680.out) hb); replace BK666 := Aside0.mk (bb BK666 hb); replace BK667 := Aside0.mk (bb BK667 hb); replace HB := Aside0.mk (below_step (bw HB) hb); (try clear hb); (try clear hb2); (try clear hk); (try clear hi); obtain ⟨hcz37_0, hcz37_1, hfz37_0, hfz37_1⟩ := cf2 BK667))
     refine bodyPost_ret (results_ct rfl _ _ gb667 29 #[.int .i64 t681, .int .i64 t682] (0, 0) _ rfl (by (with_reducible repeat (first | refine blk_drewN ?_ _ | refine blk_drew ?_ | refine blk_alloc ?_ _)); refine blk_put (cs := #[.int .i64 t681, .int .i64 0]) ?_ 1 _ rfl; (with_reducible repeat (first | refine blk_drewN ?_ _ | refine blk_drew ?_ | refine blk_alloc ?_ _)); refine blk_put (cs := #[.int .i64 0, .int .i64 0]) ?_ 0 _ rfl; (with_reducible repeat (first | refine blk_drewN ?_ _ | refine blk_drew ?_ | refine blk_alloc ?_ _)); exact BK667.out) Try.underlying29 rfl (by kernel_rfl)) rfl ?_
     exact ⟨by first | rfl | (simp [errW_none, errW_some] <;> rfl) | (simp [*, errW_none, errW_some] <;> rfl), bw HB⟩
 ·rw [if_neg c5] at H
  have c5b0 : (t668 == 0) = false := beq_eq_false_iff_ne.mpr c5
  have c5b1 : (t668 != 0) = true := bne_iff_ne.mpr c5
  simp only [Option.some.injEq, Prod.mk.injEq] at H
  obtain ⟨rfl, rfl, rfl⟩ := H
  go_enter Try.func30, Try.ntmps30
  go_wp2_with (first | ((with_reducible refine gate_dst (N := 5) rfl ?_); refine box_event ?hg (N := 5) ?hd (cs := #[.int .i64 a2_0, .int .i64 a2_1]) (t := 29) ?hr ?_; (case hd => rfl); (case hg => rfl); (case hr => first | (go_simp; done) | (go_simp; rfl)); intro gb666 hg w38 hbox hb; have BK666 := Aside0.mk (hbox); have GW666 := Aside0.mk (bs HB hg : w.heap.size ≤ gb666); replace HB := Aside0.mk (below_step (bw HB) hb); clear hb hbox hg) | ((with_reducible refine gate_dst (N := 6) rfl ?_); refine box_event ?hg (N := 6) ?hd (cs := #[.int .i64 0, .int .i64 0]) (t := 29) ?hr ?_; (case hd => rfl); (case hg => rfl); (case hr => first | (go_simp; done) | (go_simp; rfl)); intro gb667 hg w39 hbox hb; have BK667 := Aside0.mk (hbox); have GW667 := Aside0.mk (bs HB hg : w.heap.size ≤ gb667); replace HB := Aside0.mk (below_step (bw HB) hb); have NB666_667 := Aside0.mk (nl BK666 hg); have NB667_666 := Aside0.mk (ng BK666 hg); replace BK666 := Aside0.mk (bb BK666 hb); clear hb hbox hg; have hnb40 := NB666_667.out; have hnc40 := NB667_666.out; obtain ⟨hcz41_0, hcz41_1, hfz41_0, hfz41_1⟩ := cf2 BK666) | ((with_reducible refine gate_callee (f := 53) rfl ?_); refine goesL_ (some 16) rfl rfl Try.func53 (by kernel_rfl) rfl #[.int .i64 a0, .int .i64 a1, .agg #[.int .i64 a2_0, .int .i64 a2_1], .agg #[.int .i64 0, .int .i64 0]] rfl (by (try simp only [List.map_toArray, List.map_cons, List.map_nil]); first | done | rfl | (simp only [List.length_drop, List.length_take]; rfl)) ?_; (with_reducible refine (environref02_right.calls k a0 a1 a2_0 a2_1 0 0 t668 _ A4.out).mono ?_); rintro e w42 ⟨rfl, hb⟩; refine ⟨_, rfl, ?_⟩; replace BK666 := Aside0.mk (bb BK666 hb); replace BK667 := Aside0.mk (bb BK667 hb); replace HB := Aside0.mk (below_step (bw HB) hb); (try clear hb); (try clear hb2); (try clear hk); (try clear hi); obtain ⟨hcz43_0, hcz43_1, hfz43_0, hfz43_1⟩ := cf2 BK667))
  refine bodyPost_ret (results_ct rfl _ _ gb667 29 #[.int .i64 0, .int .i64 0] (0, 0) _ rfl (by (with_reducible repeat (first | refine blk_drewN ?_ _ | refine blk_drew ?_ | refine blk_alloc ?_ _)); refine blk_put (cs := #[.int .i64 0, .int .i64 0]) ?_ 1 _ rfl; (with_reducible repeat (first | refine blk_drewN ?_ _ | refine blk_drew ?_ | refine blk_alloc ?_ _)); refine blk_put (cs := #[.int .i64 0, .int .i64 0]) ?_ 0 _ rfl; (with_reducible repeat (first | refine blk_drewN ?_ _ | refine blk_drew ?_ | refine blk_alloc ?_ _)); exact BK667.out) Try.underlying29 rfl (by kernel_rfl)) rfl ?_
  exact ⟨by first | rfl | (simp [errW_none, errW_some] <;> rfl) | (simp [*, errW_none, errW_some] <;> rfl), bw HB⟩
end Go.Proofs.Ytamkjpjibkabaaa.PR
