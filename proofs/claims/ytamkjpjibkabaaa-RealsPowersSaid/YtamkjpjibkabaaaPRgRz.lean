-- written by a program of this session out of the kit's print (its words and its form)
import Derived.Test.YtamkjpjibkabaaaPRgRa
import Derived.Test.YtamkjpjibkabaaaPRgRd
import Derived.Test.YtamkjpjibkabaaaPRgRg
import Derived.Test.YtamkjpjibkabaaaPRsq
import Derived.Test.YtamkjpjibkabaaaPRx0
namespace Go.Proofs.Ytamkjpjibkabaaa.PR
open Go.RowKit Go.Proofs.YtamkjpjibkabaaaW.PrintWords Go.Proofs.YtamkjpjibkabaaaW.PrintLast Go.Proofs.YtamkjpjibkabaaaW.PrintMore
attribute [local go_sem] max2_int min2_int max_two min_two max_three min_three max_four min_four   -- for this text's walks alone
set_option linter.unusedVariables false
set_option linter.unusedSimpArgs false

/-! ### environref02_Div: function 28 -/
def environref02_Div.f (k : Nat) (a0 : Int) (a1 : Int) (a2_0 : Int) (a2_1 : Int) (a3_0 : Int) (a3_1 : Int) : Option (Int × Int × Int) := (environref02_right.f k a0 a1 a2_0 a2_1 a3_0 a3_1).bind fun t519 => (if t519 = 0 then (if a3_0 = 0 then (some (0, 0, 11)) else ((environref02_Of.f k a2_0).bind fun t520 => ((environref02_shift.f t520 40).bind fun t523 => ((environref02_Of.f k a3_0).bind fun t526 => ((environref02_divide.f k t523 t526).bind fun bt529 => ((environref02_Rounded.f k a0 a1 ((decide (a2_0 < 0)) != (decide (a3_0 < 0))) bt529.1 (wrap64 ((wrap64 (a2_1 - a3_1)) - 40)) (decide ((bt529.2.length : Int) > 0))).bind fun bt535 => (some (bt535.1, bt535.2.1, bt535.2.2)))))))) else (some (0, 0, t519)))
theorem environref02_Div.mono : ∀ a0 a1 a2 a3 a4 a5 k, LeO (environref02_Div.f k a0 a1 a2 a3 a4 a5) (environref02_Div.f (k + 1) a0 a1 a2 a3 a4 a5) := by
 intro a0 a1 a2 a3 a4 a5 k
 unfold environref02_Div.f
 repeat' first
   | (with_reducible exact environref02_Of.mono _ _)
   | (with_reducible exact environref02_Rounded.mono _ _ _ _ _ _ _)
   | (with_reducible exact environref02_divide.mono _ _ _)
   | (with_reducible exact environref02_right.mono _ _ _ _ _ _ _)
   | (with_reducible exact LeO.refl _)
   | (with_reducible exact LeO.none _)
   | (with_reducible refine LeO.ite ?_ ?_)
   | (with_reducible refine LeO.bind ?_ (fun _ => ?_))
   | exact environref02_Of.mono _ _
   | exact environref02_Rounded.mono _ _ _ _ _ _ _
   | exact environref02_divide.mono _ _ _
   | exact environref02_right.mono _ _ _ _ _ _ _
   | exact LeO.none _
   | refine LeO.ite ?_ ?_
   | refine LeO.bind ?_ (fun _ => ?_)
def environref02_Div.T6 : Bool × List (List Nat × List Nat) := (true, [([], []), ([0], [0]), ([1], [1]), ([2, 2], [2]), ([], []), ([4], [4]), ([5, 3], [5]), ([3, 6, 6], [3, 6]), ([7], [7]), ([8], [8]), ([8], [8]), ([9, 7, 0, 1, 2, 3, 4, 5, 6, 7, 8, 9], [9]), ([10, 11, 0, 1, 2, 3, 4, 5, 6, 7, 8, 9, 10, 11], [10])])
def environref02_Div.B6 : List Nat := [0, 1, 3, 7, 0, 16, 63, 127, 255, 511, 511, 1023, 4095]
theorem environref02_Div.tab6 : rtab .any (opsOf Try.f28 6) = environref02_Div.T6 := by kernel_rfl
theorem environref02_Div.bits6 : waitsOk environref02_Div.T6.2 environref02_Div.B6 = true := by kernel_rfl
set_option maxHeartbeats 8000000 in
set_option maxRecDepth 100000 in
theorem environref02_Div.calls (k : Nat) (a0 : Int) (a1 : Int) (a2_0 : Int) (a2_1 : Int) (a3_0 : Int) (a3_1 : Int) (r1 : Int) (r2 : Int) (r3 : Int) (w : World) (h : environref02_Div.f k a0 a1 a2_0 a2_1 a3_0 a3_1 = some (r1, r2, r3)) :
  Calls Try.prog 28 #[.int .i64 a0, .int .i64 a1, .agg #[.int .i64 a2_0, .int .i64 a2_1], .agg #[.int .i64 a3_0, .int .i64 a3_1]] w fun e w' => e = .returned (.tuple #[.agg #[.int .i64 r1, .int .i64 r2], .int .i64 r3]) ∧ Below w.heap.size w w' := by
 have hu29 := Try.underlying29
 have hu68 := Try.underlying68
 have HB := Aside0.mk (Below.refl w.heap.size w)
 have H : ((environref02_right.f k a0 a1 a2_0 a2_1 a3_0 a3_1).bind fun t519 => (if t519 = 0 then (if a3_0 = 0 then (some (0, 0, 11)) else ((environref02_Of.f k a2_0).bind fun t520 => ((environref02_shift.f t520 40).bind fun t523 => ((environref02_Of.f k a3_0).bind fun t526 => ((environref02_divide.f k t523 t526).bind fun bt529 => ((environref02_Rounded.f k a0 a1 ((decide (a2_0 < 0)) != (decide (a3_0 < 0))) bt529.1 (wrap64 ((wrap64 (a2_1 - a3_1)) - 40)) (decide ((bt529.2.length : Int) > 0))).bind fun bt535 => (some (bt535.1, bt535.2.1, bt535.2.2)))))))) else (some (0, 0, t519)))) = some (r1, r2, r3) := h
 clear h
 replace H := Option.bind_eq_some_iff.mp H
 obtain ⟨t519, A50, H⟩ := H
 replace H : (if t519 = 0 then (if a3_0 = 0 then (some (0, 0, 11)) else ((environref02_Of.f k a2_0).bind fun t520 => ((environref02_shift.f t520 40).bind fun t523 => ((environref02_Of.f k a3_0).bind fun t526 => ((environref02_divide.f k t523 t526).bind fun bt529 => ((environref02_Rounded.f k a0 a1 ((decide (a2_0 < 0)) != (decide (a3_0 < 0))) bt529.1 (wrap64 ((wrap64 (a2_1 - a3_1)) - 40)) (decide ((bt529.2.length : Int) > 0))).bind fun bt535 => (some (bt535.1, bt535.2.1, bt535.2.2)))))))) else (some (0, 0, t519))) = some (r1, r2, r3) := H
 have A5 := Aside0.mk A50
 clear A50
 by_cases c6 : t519 = 0
 ·rw [if_pos c6] at H
  have c6b0 : (t519 == 0) = true := beq_iff_eq.mpr c6
  have c6b1 : (t519 != 0) = false := bne_eq_false_iff_eq.mpr c6
  clear c6
  by_cases c7 : a3_0 = 0
  ·rw [if_pos c7] at H
   have c7b0 : (a3_0 == 0) = true := beq_iff_eq.mpr c7
   have c7b1 : (a3_0 != 0) = false := bne_eq_false_iff_eq.mpr c7
   clear c7
   simp only [Option.some.injEq, Prod.mk.injEq] at H
   obtain ⟨rfl, rfl, rfl⟩ := H
   go_enter Try.func28, Try.ntmps28
   go_wp2_with (first | ((with_reducible refine gate_dst (N := 6) rfl ?_); refine box_event ?hg (N := 6) ?hd (cs := #[.int .i64 a2_0, .int .i64 a2_1]) (t := 29) ?hr ?_; (case hd => rfl); (case hg => rfl); (case hr => first | (go_simp; done) | (go_simp; rfl)); intro gb516 hg w8 hbox hb; have BK516 := Aside0.mk (hbox); have GW516 := Aside0.mk (bs HB hg : w.heap.size ≤ gb516); replace HB := Aside0.mk (below_step (bw HB) hb); clear hb hbox hg) | ((with_reducible refine gate_dst (N := 7) rfl ?_); refine box_event ?hg (N := 7) ?hd (cs := #[.int .i64 a3_0, .int .i64 a3_1]) (t := 29) ?hr ?_; (case hd => rfl); (case hg => rfl); (case hr => first | (go_simp; done) | (go_simp; rfl)); intro gb517 hg w9 hbox hb; have BK517 := Aside0.mk (hbox); have GW517 := Aside0.mk (bs HB hg : w.heap.size ≤ gb517); replace HB := Aside0.mk (below_step (bw HB) hb); have NB516_517 := Aside0.mk (nl BK516 hg); have NB517_516 := Aside0.mk (ng BK516 hg); replace BK516 := Aside0.mk (bb BK516 hb); clear hb hbox hg) | ((with_reducible refine gate_dst (N := 8) rfl ?_); refine box_event ?hg (N := 8) ?hd (cs := #[.int .i64 0, .int .i64 0]) (t := 29) ?hr ?_; (case hd => rfl); (case hg => rfl); (case hr => first | (go_simp; done) | (go_simp; rfl)); intro gb518 hg w10 hbox hb; have BK518 := Aside0.mk (hbox); have GW518 := Aside0.mk (bs HB hg : w.heap.size ≤ gb518); replace HB := Aside0.mk (below_step (bw HB) hb); have NB516_518 := Aside0.mk (nl BK516 hg); have NB518_516 := Aside0.mk (ng BK516 hg); replace BK516 := Aside0.mk (bb BK516 hb); have NB517_518 := Aside0.mk (nl BK517 hg); have NB518_517 := Aside0.mk (ng BK517 hg); replace BK517 := Aside0.mk (bb BK517 hb); clear hb hbox hg; have hnb11 := NB516_517.out; have hnc11 := NB517_516.out; have hnb12 := NB516_518.out; have hnc12 := NB518_516.out; obtain ⟨hcz13_0, hcz13_1, hfz13_0, hfz13_1⟩ := cf2 BK516; have hnb14 := NB517_518.out; have hnc14 := NB518_517.out; obtain ⟨hcz15_0, hcz15_1, hfz15_0, hfz15_1⟩ := cf2 BK517) | ((with_reducible refine gate_callee (f := 53) rfl ?_); refine goesL_ (some 17) rfl rfl Try.func53 (by kernel_rfl) rfl #[.int .i64 a0, .int .i64 a1, .agg #[.int .i64 a2_0, .int .i64 a2_1], .agg #[.int .i64 a3_0, .int .i64 a3_1]] rfl (by (try simp only [List.map_toArray, List.map_cons, List.map_nil]); first | done | rfl | (simp only [List.length_drop, List.length_take]; rfl)) ?_; (with_reducible refine (environref02_right.calls k a0 a1 a2_0 a2_1 a3_0 a3_1 t519 _ A5.out).mono ?_); rintro e w16 ⟨rfl, hb⟩; refine ⟨_, rfl, ?_⟩; replace BK516 := Aside0.mk (bb BK516 hb); replace BK517 := Aside0.mk (bb BK517 hb); replace BK518 := Aside0.mk (bb BK518 hb); replace HB := Aside0.mk (below_step (bw HB) hb); (try clear hb); (try clear hb2); (try clear hk); (try clear hi); obtain ⟨hcz17_0, hcz17_1, hfz17_0, hfz17_1⟩ := cf2 BK517; obtain ⟨hcz18_0, hcz18_1, hfz18_0, hfz18_1⟩ := cf2 BK518))
   refine bodyPost_ret (results_ct rfl _ _ gb518 29 #[.int .i64 0, .int .i64 0] (0, 0) _ rfl (by (with_reducible repeat (first | refine blk_drewN ?_ _ | refine blk_drew ?_ | refine blk_alloc ?_ _)); refine blk_put (cs := #[.int .i64 0, .int .i64 0]) ?_ 1 _ rfl; (with_reducible repeat (first | refine blk_drewN ?_ _ | refine blk_drew ?_ | refine blk_alloc ?_ _)); refine blk_put (cs := #[.int .i64 0, .int .i64 0]) ?_ 0 _ rfl; (with_reducible repeat (first | refine blk_drewN ?_ _ | refine blk_drew ?_ | refine blk_alloc ?_ _)); exact BK518.out) Try.underlying29 rfl (by kernel_rfl)) rfl ?_
   exact ⟨by first | rfl | (simp [errW_none, errW_some] <;> rfl) | (simp [*, errW_none, errW_some] <;> rfl), bw HB⟩
  ·rw [if_neg c7] at H
   have c7b0 : (a3_0 == 0) = false := beq_eq_false_iff_ne.mpr c7
   have c7b1 : (a3_0 != 0) = true := bne_iff_ne.mpr c7
   replace H := Option.bind_eq_some_iff.mp H
   obtain ⟨t520, A190, H⟩ := H
   replace H : ((environref02_shift.f t520 40).bind fun t523 => ((environref02_Of.f k a3_0).bind fun t526 => ((environref02_divide.f k t523 t526).bind fun bt529 => ((environref02_Rounded.f k a0 a1 ((decide (a2_0 < 0)) != (decide (a3_0 < 0))) bt529.1 (wrap64 ((wrap64 (a2_1 - a3_1)) - 40)) (decide ((bt529.2.length : Int) > 0))).bind fun bt535 => (some (bt535.1, bt535.2.1, bt535.2.2)))))) = some (r1, r2, r3) := H
   have A19 := Aside0.mk A190
   clear A190
   replace H := Option.bind_eq_some_iff.mp H
   obtain ⟨t523, A200, H⟩ := H
   replace H : ((environref02_Of.f k a3_0).bind fun t526 => ((environref02_divide.f k t523 t526).bind fun bt529 => ((environref02_Rounded.f k a0 a1 ((decide (a2_0 < 0)) != (decide (a3_0 < 0))) bt529.1 (wrap64 ((wrap64 (a2_1 - a3_1)) - 40)) (decide ((bt529.2.length : Int) > 0))).bind fun bt535 => (some (bt535.1, bt535.2.1, bt535.2.2))))) = some (r1, r2, r3) := H
   have A20 := Aside0.mk A200
   clear A200
   replace H := Option.bind_eq_some_iff.mp H
   obtain ⟨t526, A210, H⟩ := H
   replace H : ((environref02_divide.f k t523 t526).bind fun bt529 => ((environref02_Rounded.f k a0 a1 ((decide (a2_0 < 0)) != (decide (a3_0 < 0))) bt529.1 (wrap64 ((wrap64 (a2_1 - a3_1)) - 40)) (decide ((bt529.2.length : Int) > 0))).bind fun bt535 => (some (bt535.1, bt535.2.1, bt535.2.2)))) = some (r1, r2, r3) := H
   have A21 := Aside0.mk A210
   clear A210
   replace H := Option.bind_eq_some_iff.mp H
   obtain ⟨⟨t529, t532⟩, A220, H⟩ := H
   replace H : ((environref02_Rounded.f k a0 a1 ((decide (a2_0 < 0)) != (decide (a3_0 < 0))) t529 (wrap64 ((wrap64 (a2_1 - a3_1)) - 40)) (decide ((t532.length : Int) > 0))).bind fun bt535 => (some (bt535.1, bt535.2.1, bt535.2.2))) = some (r1, r2, r3) := H
   have A22 := Aside0.mk A220
   clear A220
   replace H := Option.bind_eq_some_iff.mp H
   obtain ⟨⟨t535, t536, t537⟩, A230, H⟩ := H
   replace H : (some (t535, t536, t537)) = some (r1, r2, r3) := H
   have A23 := Aside0.mk A230
   clear A230
   simp only [Option.some.injEq, Prod.mk.injEq] at H
   obtain ⟨rfl, rfl, rfl⟩ := H
   go_enter Try.func28, Try.ntmps28
   try go_wp2_with (first | ((with_reducible refine gate_dst (N := 6) rfl ?_); refine box_event ?hg (N := 6) ?hd (cs := #[.int .i64 a2_0, .int .i64 a2_1]) (t := 29) ?hr ?_; (case hd => rfl); (case hg => rfl); (case hr => first | (go_simp; done) | (go_simp; rfl)); intro gb516 hg w24 hbox hb; have BK516 := Aside0.mk (hbox); have GW516 := Aside0.mk (bs HB hg : w.heap.size ≤ gb516); replace HB := Aside0.mk (below_step (bw HB) hb); clear hb hbox hg) | ((with_reducible refine gate_dst (N := 7) rfl ?_); refine box_event ?hg (N := 7) ?hd (cs := #[.int .i64 a3_0, .int .i64 a3_1]) (t := 29) ?hr ?_; (case hd => rfl); (case hg => rfl); (case hr => first | (go_simp; done) | (go_simp; rfl)); intro gb517 hg w25 hbox hb; have BK517 := Aside0.mk (hbox); have GW517 := Aside0.mk (bs HB hg : w.heap.size ≤ gb517); replace HB := Aside0.mk (below_step (bw HB) hb); have NB516_517 := Aside0.mk (nl BK516 hg); have NB517_516 := Aside0.mk (ng BK516 hg); replace BK516 := Aside0.mk (bb BK516 hb); clear hb hbox hg) | ((with_reducible refine gate_dst (N := 8) rfl ?_); refine box_event ?hg (N := 8) ?hd (cs := #[.int .i64 0, .int .i64 0]) (t := 29) ?hr ?_; (case hd => rfl); (case hg => rfl); (case hr => first | (go_simp; done) | (go_simp; rfl)); intro gb518 hg w26 hbox hb; have BK518 := Aside0.mk (hbox); have GW518 := Aside0.mk (bs HB hg : w.heap.size ≤ gb518); replace HB := Aside0.mk (below_step (bw HB) hb); have NB516_518 := Aside0.mk (nl BK516 hg); have NB518_516 := Aside0.mk (ng BK516 hg); replace BK516 := Aside0.mk (bb BK516 hb); have NB517_518 := Aside0.mk (nl BK517 hg); have NB518_517 := Aside0.mk (ng BK517 hg); replace BK517 := Aside0.mk (bb BK517 hb); clear hb hbox hg; have hnb27 := NB516_517.out; have hnc27 := NB517_516.out; have hnb28 := NB516_518.out; have hnc28 := NB518_516.out; obtain ⟨hcz29_0, hcz29_1, hfz29_0, hfz29_1⟩ := cf2 BK516; have hnb30 := NB517_518.out; have hnc30 := NB518_517.out; obtain ⟨hcz31_0, hcz31_1, hfz31_0, hfz31_1⟩ := cf2 BK517) | ((with_reducible refine gate_callee (f := 53) rfl ?_); refine goesL_ (some 17) rfl rfl Try.func53 (by kernel_rfl) rfl #[.int .i64 a0, .int .i64 a1, .agg #[.int .i64 a2_0, .int .i64 a2_1], .agg #[.int .i64 a3_0, .int .i64 a3_1]] rfl (by (try simp only [List.map_toArray, List.map_cons, List.map_nil]); first | done | rfl | (simp only [List.length_drop, List.length_take]; rfl)) ?_; (with_reducible refine (environref02_right.calls k a0 a1 a2_0 a2_1 a3_0 a3_1 t519 _ A5.out).mono ?_); rintro e w32 ⟨rfl, hb⟩; refine ⟨_, rfl, ?_⟩; replace BK516 := Aside0.mk (bb BK516 hb); replace BK517 := Aside0.mk (bb BK517 hb); replace BK518 := Aside0.mk (bb BK518 hb); replace HB := Aside0.mk (below_step (bw HB) hb); (try clear hb); (try clear hb2); (try clear hk); (try clear hi); obtain ⟨hcz33_0, hcz33_1, hfz33_0, hfz33_1⟩ := cf2 BK517))
   replace BK516 := Aside0.mk (blk_drew BK516.out)
   replace BK517 := Aside0.mk (blk_drew BK517.out)
   replace BK518 := Aside0.mk (blk_drew BK518.out)
   replace HB := Aside0.mk (below_drew1 HB.out)
   refine start_ (n := 13) (S := fun w' => w'.cell? ⟨gb516, 0, none⟩ = some (.int .i64 a2_0) ∧ w'.cell? ⟨gb516, 1, none⟩ = some (.int .i64 a2_1) ∧ w'.cell? ⟨gb517, 0, none⟩ = some (.int .i64 a3_0) ∧ w'.cell? ⟨gb517, 1, none⟩ = some (.int .i64 a3_1)) (ds := []) #[false, false, false, false, false, false, false, false, false, false, false, false, false] (by kernel_rfl) rfl rfl ⟨(blk_cell BK516.out 0).trans rfl, (blk_cell BK516.out 1).trans rfl, (blk_cell BK517.out 0).trans rfl, (blk_cell BK517.out 1).trans rfl⟩ (fun hHeld => ?_); refine with_tabW environref02_Div.tab6 environref02_Div.bits6 (fun HT_ HW_ => ?_)
   generalize w32.drew = w34 at BK516 BK517 BK518 HB hHeld ⊢
   refine pure_ (i := 0) (N := some 27) (v := ?_) (a' := ?_) #[true, false, false, false, false, false, false, false, false, false, false, false, false] rfl rfl (any_of HT_.out (by kernel_rfl)) (fun _ _ _ h => h) (Or.inl ⟨by rfl, ?_⟩) ?_ ?_
   rotate_left
   ·intro w'
    go_simp
    with_reducible rfl
   rotate_left
   ·simp only [sx, i64_w, i32_w]
    rfl
   refine pure_ (i := 4) (N := some 31) (v := ?_) (a' := ?_) #[true, false, false, false, true, false, false, false, false, false, false, false, false] rfl rfl (any_of HT_.out (by kernel_rfl)) (fun _ _ _ h => h) (Or.inl ⟨by rfl, ?_⟩) ?_ ?_
   rotate_left
   ·intro w'
    go_simp
    with_reducible rfl
   rotate_left
   ·simp only [sx, i64_w, i32_w]
    rfl
   refine take_ (i := 1) (N := some 28) (v := ?_) (a' := ?_) #[true, true, false, false, true, false, false, false, false, false, false, false, false] rfl rfl (take_ofW HT_.out HW_.out (by kernel_rfl)) (fun _ _ _ h => h) (Or.inl ⟨by rfl, ?_⟩) hHeld ?_ ?_
   rotate_left
   ·rintro w' ⟨s0, s1, s2, s3⟩
    go_simp
    with_reducible rfl
   rotate_left
   ·simp only [sx, i64_w, i32_w]
    rfl
   refine take_ (i := 5) (N := some 32) (v := ?_) (a' := ?_) #[true, true, false, false, true, true, false, false, false, false, false, false, false] rfl rfl (take_ofW HT_.out HW_.out (by kernel_rfl)) (fun _ _ _ h => h) (Or.inl ⟨by rfl, ?_⟩) hHeld ?_ ?_
   rotate_left
   ·rintro w' ⟨s0, s1, s2, s3⟩
    go_simp
    with_reducible rfl
   rotate_left
   ·simp only [sx, i64_w, i32_w]
    rfl
   refine one_ (i := 2) (N := some 29) #[true, true, true, false, true, true, false, false, false, false, false, false, false] rfl rfl (one_of HT_.out (by kernel_rfl)) (by decide) (fun K hK => ?_)
   refine goes_ Try.func48 (by kernel_rfl) rfl #[.int .i64 a2_0] (by rfl) rfl rfl (by (try simp only [List.map_toArray, List.map_cons, List.map_nil]); first | done | rfl | (simp only [List.length_drop, List.length_take]; rfl)) ?_
   with_reducible refine (environref02_Of.calls k a2_0 t520 _ A19.out).mono ?_
   rintro e w35 ⟨v521, rfl, ho0, hb⟩
   refine ⟨_, rfl, ?_⟩
   have HO522 := Aside0.mk (Kd.R_lower ho0 (below_size (bw HB)))
   replace BK516 := Aside0.mk (bb BK516 hb)
   replace BK517 := Aside0.mk (bb BK517 hb)
   replace BK518 := Aside0.mk (bb BK518 hb)
   replace HB := Aside0.mk (below_step (bw HB) hb)
   (try clear hb)
   (try clear hb2)
   (try clear hk)
   (try clear hi)
   (try clear ho0)
   obtain ⟨Ao36, co36, eo36⟩ := Kd.R_slice HO522.out
   (first | subst eo36 | (injection eo36 with f1_ f2_ f3_; have f4_ := f1_.symm; have f5_ := f3_.symm; clear f1_ f2_ f3_; subst f4_; subst f5_))
   refine hK.out _ _ ⟨(blk_cell BK516.out 0).trans rfl, (blk_cell BK516.out 1).trans rfl, (blk_cell BK517.out 0).trans rfl, (blk_cell BK517.out 1).trans rfl⟩ (fun hHeld => ?_)
   clear hK K
   refine norm_ (a' := ?_) ?_ ?_
   rotate_left
   ·show Act.put _ (some 29) _ = _
    simp only [sx, i64_w, i32_w]
    rfl
   refine one_ (i := 3) (N := some 30) #[true, true, true, true, true, true, false, false, false, false, false, false, false] rfl rfl (one_of HT_.out (by kernel_rfl)) (by decide) (fun K hK => ?_)
   refine goes_ Try.func63 (by kernel_rfl) rfl #[.slice Ao36 t520.length co36, .int .i64 40] (by rfl) rfl rfl (by (try simp only [List.map_toArray, List.map_cons, List.map_nil]); first | done | rfl | (simp only [List.length_drop, List.length_take]; rfl)) ?_
   with_reducible refine (environref02_shift.calls (fun k_ => some k_ = (.slice Ao36 t520.length co36 : Value).ownBlock) (.slice Ao36 t520.length co36) t520 40 t523 w _ ?side1 ?side2 A20.out).mono ?_
   (case side1 => repeat (first | (with_reducible first | exact HB.out | apply below_alloc | apply pw_below_drewN | apply below_drew1 | refine below_set ?_ GW516.out | refine below_set ?_ GW517.out | refine below_set ?_ GW518.out) | exact HB.out))
   (case side2 => exact Kd.R_tight rfl HO522.out)
   rintro e w37 ⟨v524, rfl, ho0, hb, hkp⟩
   refine ⟨_, rfl, ?_⟩
   replace BK516 := Aside0.mk (blk_kept (bk BK516) hkp (fun hs_ => (fun e_ => (Kd.R_ne HO522.out BK516.out (by decide)) e_) hs_))
   replace BK517 := Aside0.mk (blk_kept (bk BK517) hkp (fun hs_ => (fun e_ => (Kd.R_ne HO522.out BK517.out (by decide)) e_) hs_))
   replace BK518 := Aside0.mk (blk_kept (bk BK518) hkp (fun hs_ => (fun e_ => (Kd.R_ne HO522.out BK518.out (by decide)) e_) hs_))
   have HO525 := Aside0.mk (Kd.R_mono (ok' := fun k_ => True) ho0 (fun k_ hk_ => trivial))
   replace HB := Aside0.mk (hb)
   clear HO522
   (try clear hb)
   (try clear hkp)
   (try clear ho0)
   refine hK.out _ _ ⟨(blk_cell BK516.out 0).trans rfl, (blk_cell BK516.out 1).trans rfl, (blk_cell BK517.out 0).trans rfl, (blk_cell BK517.out 1).trans rfl⟩ (fun hHeld => ?_)
   clear hK K
   refine norm_ (a' := ?_) ?_ ?_
   rotate_left
   ·show Act.put _ (some 30) _ = _
    simp only [sx, i64_w, i32_w]
    rfl
   refine one_ (i := 6) (N := some 33) #[true, true, true, true, true, true, true, false, false, false, false, false, false] rfl rfl (one_of HT_.out (by kernel_rfl)) (by decide) (fun K hK => ?_)
   refine goes_ Try.func48 (by kernel_rfl) rfl #[.int .i64 a3_0] (by rfl) rfl rfl (by (try simp only [List.map_toArray, List.map_cons, List.map_nil]); first | done | rfl | (simp only [List.length_drop, List.length_take]; rfl)) ?_
   with_reducible refine (environref02_Of.calls k a3_0 t526 _ A21.out).mono ?_
   rintro e w38 ⟨v527, rfl, ho0, hb⟩
   refine ⟨_, rfl, ?_⟩
   have HO528 := Aside0.mk (Kd.R_lower (Kd.R_new' ho0 (Kd.R_lt (by (with_reducible repeat (first | apply Kd.R_alloc | apply Kd.R_drewN | apply Kd.R_drew)); exact HO525.out))) (below_size (bw HB)))
   replace HO525 := Aside0.mk (Kd.R_elder' (by (with_reducible repeat (first | apply Kd.R_alloc | apply Kd.R_drewN | apply Kd.R_drew)); exact HO525.out) (Kd.R_base ho0) hb)
   replace BK516 := Aside0.mk (bb BK516 hb)
   replace BK517 := Aside0.mk (bb BK517 hb)
   replace BK518 := Aside0.mk (bb BK518 hb)
   replace HB := Aside0.mk (below_step (bw HB) hb)
   (try clear hb)
   (try clear hb2)
   (try clear hk)
   (try clear hi)
   (try clear ho0)
   obtain ⟨Ao39, co39, eo39⟩ := Kd.R_slice HO525.out
   (first | subst eo39 | (injection eo39 with f1_ f2_ f3_; have f4_ := f1_.symm; have f5_ := f3_.symm; clear f1_ f2_ f3_; subst f4_; subst f5_))
   obtain ⟨Ao40, co40, eo40⟩ := Kd.R_slice HO528.out
   (first | subst eo40 | (injection eo40 with f1_ f2_ f3_; have f4_ := f1_.symm; have f5_ := f3_.symm; clear f1_ f2_ f3_; subst f4_; subst f5_))
   refine hK.out _ _ ⟨(blk_cell BK516.out 0).trans rfl, (blk_cell BK516.out 1).trans rfl, (blk_cell BK517.out 0).trans rfl, (blk_cell BK517.out 1).trans rfl⟩ (fun hHeld => ?_)
   clear hK K
   refine norm_ (a' := ?_) ?_ ?_
   rotate_left
   ·show Act.put _ (some 33) _ = _
    simp only [sx, i64_w, i32_w]
    rfl
   refine one_ (i := 7) (N := some 34) #[true, true, true, true, true, true, true, true, false, false, false, false, false] rfl rfl (one_of HT_.out (by kernel_rfl)) (by decide) (fun K hK => ?_)
   refine goes_ Try.func62 (by kernel_rfl) rfl #[.slice Ao39 t523.length co39, .slice Ao40 t526.length co40] (by rfl) rfl rfl (by (try simp only [List.map_toArray, List.map_cons, List.map_nil]); first | done | rfl | (simp only [List.length_drop, List.length_take]; rfl)) ?_
   with_reducible refine (environref02_divide.calls k _ _ t523 _ _ t526 t529 t532 _ ?side1 ?side2 ?side3 ?side4 A22.out).mono ?_
   (case side1 => repeat (first | exact (Kd.R_reads' HO525.out).2.2 | (with_reducible refine Kd.C_alloc ?_ _) | (with_reducible refine Kd.C_drewN ?_ _) | (with_reducible refine Kd.C_drew ?_)))
   (case side2 => exact (Kd.R_reads' HO525.out).2.1)
   (case side3 => repeat (first | exact (Kd.R_reads' HO528.out).2.2 | (with_reducible refine Kd.C_alloc ?_ _) | (with_reducible refine Kd.C_drewN ?_ _) | (with_reducible refine Kd.C_drew ?_)))
   (case side4 => exact (Kd.R_reads' HO528.out).2.1)
   rintro e w41 ⟨v530, v533, rfl, ho0, ho1, hb⟩
   refine ⟨_, rfl, ?_⟩
   have HO531 := Aside0.mk (Kd.V_lower (Kd.V_mono (ok' := fun k_ => some k_ ≠ (.slice Ao39 t523.length co39 : Value).ownBlock ∧ some k_ ≠ (.slice Ao40 t526.length co40 : Value).ownBlock ∧ k_ ≠ gb516 ∧ k_ ≠ gb517 ∧ k_ ≠ gb518) ho0 (fun k_ hk_ => ⟨(Kd.fresh' (Kd.R_lt (by (with_reducible repeat (first | apply Kd.R_alloc | apply Kd.R_drewN | apply Kd.R_drew)); exact HO525.out)) k_ hk_), (Kd.fresh' (Kd.R_lt (by (with_reducible repeat (first | apply Kd.R_alloc | apply Kd.R_drewN | apply Kd.R_drew)); exact HO528.out)) k_ hk_), (Kd.freshB (g := gb516) (o := .cells #[.int .i64 a2_0, .int .i64 a2_1] 29 (0, 0)) (bk BK516) k_ hk_), (Kd.freshB (g := gb517) (o := .cells #[.int .i64 a3_0, .int .i64 a3_1] 29 (0, 0)) (bk BK517) k_ hk_), (Kd.freshB (g := gb518) (o := .cells #[.int .i64 0, .int .i64 0] 29 (0, 0)) (bk BK518) k_ hk_)⟩)) (below_size (bw HB)))
   have HO534 := Aside0.mk (Kd.V_lower (Kd.V_mono (ok' := fun k_ => some k_ ≠ (.slice Ao39 t523.length co39 : Value).ownBlock ∧ some k_ ≠ (.slice Ao40 t526.length co40 : Value).ownBlock ∧ k_ ≠ gb516 ∧ k_ ≠ gb517 ∧ k_ ≠ gb518) ho1 (fun k_ hk_ => ⟨(Kd.fresh' (Kd.R_lt (by (with_reducible repeat (first | apply Kd.R_alloc | apply Kd.R_drewN | apply Kd.R_drew)); exact HO525.out)) k_ hk_), (Kd.fresh' (Kd.R_lt (by (with_reducible repeat (first | apply Kd.R_alloc | apply Kd.R_drewN | apply Kd.R_drew)); exact HO528.out)) k_ hk_), (Kd.freshB (g := gb516) (o := .cells #[.int .i64 a2_0, .int .i64 a2_1] 29 (0, 0)) (bk BK516) k_ hk_), (Kd.freshB (g := gb517) (o := .cells #[.int .i64 a3_0, .int .i64 a3_1] 29 (0, 0)) (bk BK517) k_ hk_), (Kd.freshB (g := gb518) (o := .cells #[.int .i64 0, .int .i64 0] 29 (0, 0)) (bk BK518) k_ hk_)⟩)) (below_size (bw HB)))
   replace HO525 := Aside0.mk (Kd.R_below (by (with_reducible repeat (first | apply Kd.R_alloc | apply Kd.R_drewN | apply Kd.R_drew)); exact HO525.out) hb)
   replace HO528 := Aside0.mk (Kd.R_below (by (with_reducible repeat (first | apply Kd.R_alloc | apply Kd.R_drewN | apply Kd.R_drew)); exact HO528.out) hb)
   replace BK516 := Aside0.mk (bb BK516 hb)
   replace BK517 := Aside0.mk (bb BK517 hb)
   replace BK518 := Aside0.mk (bb BK518 hb)
   replace HB := Aside0.mk (below_step (bw HB) hb)
   (try clear hb)
   (try clear hb2)
   (try clear hk)
   (try clear hi)
   (try clear ho0)
   (try clear ho1)
   refine hK.out _ _ ⟨(blk_cell BK516.out 0).trans rfl, (blk_cell BK516.out 1).trans rfl, (blk_cell BK517.out 0).trans rfl, (blk_cell BK517.out 1).trans rfl⟩ (fun hHeld => ?_)
   clear hK K
   refine norm_ (a' := ?_) ?_ ?_
   rotate_left
   ·show Act.put _ (some 34) _ = _
    simp only [sx, i64_w, i32_w]
    rfl
   refine pure_ (i := 8) (N := some 26) (v := ?_) (a' := ?_) #[true, true, true, true, true, true, true, true, true, false, false, false, false] rfl rfl (any_of HT_.out (by kernel_rfl)) (fun _ _ _ h => h) (Or.inl ⟨by rfl, ?_⟩) ?_ ?_
   rotate_left
   ·intro w'
    go_simp
    with_reducible rfl
   rotate_left
   ·simp only [sx, i64_w, i32_w]
    rfl
   refine pure_ (i := 9) (N := some 35) (v := ?_) (a' := ?_) #[true, true, true, true, true, true, true, true, true, true, false, false, false] rfl rfl (any_of HT_.out (by kernel_rfl)) (fun _ _ _ h => h) (Or.inl ⟨by rfl, ?_⟩) ?_ ?_
   rotate_left
   ·intro w'
    go_simp
    with_reducible rfl
   rotate_left
   ·simp only [sx, i64_w, i32_w]
    rfl
   refine pure_ (i := 10) (N := some 36) (v := ?_) (a' := ?_) #[true, true, true, true, true, true, true, true, true, true, true, false, false] rfl rfl (any_of HT_.out (by kernel_rfl)) (fun _ _ _ h => h) (Or.inl ⟨by rfl, ?_⟩) ?_ ?_
   rotate_left
   ·intro w'
    go_simp
    with_reducible rfl
   rotate_left
   ·simp only [sx, i64_w, i32_w]
    rfl
   refine pure_ (i := 11) (N := some 11) (v := ?_) (a' := ?_) #[true, true, true, true, true, true, true, true, true, true, true, true, false] rfl rfl (any_of HT_.out (by kernel_rfl)) (fun _ _ _ h => h) (Or.inl ⟨by rfl, ?_⟩) ?_ ?_
   rotate_left
   ·intro w'
    go_simp
    with_reducible rfl
   rotate_left
   ·simp only [sx, i64_w, i32_w]
    rfl
   refine pure_ (i := 12) (N := some 12) (v := ?_) (a' := ?_) #[true, true, true, true, true, true, true, true, true, true, true, true, true] rfl rfl (any_of HT_.out (by kernel_rfl)) (fun _ _ _ h => h) (Or.inl ⟨by rfl, ?_⟩) ?_ ?_
   rotate_left
   ·intro w'
    go_simp
    with_reducible rfl
   rotate_left
   ·simp only [sx, i64_w, i32_w]
    rfl
   refine done_ (done_of HT_.out (by kernel_rfl)) ?_
   obtain ⟨hcz42_0, hcz42_1, hfz42_0, hfz42_1⟩ := cf2 BK516
   obtain ⟨hcz43_0, hcz43_1, hfz43_0, hfz43_1⟩ := cf2 BK517
   obtain ⟨Ao44, co44, eo44⟩ := Kd.V_slice HO534.out
   subst eo44
   obtain ⟨Ao45, co45, eo45⟩ := Kd.V_slice HO531.out
   subst eo45
   have hlen_ : (decide ((t532.length : Int) > 0)) = (decide (0 < t532.length)) := by simp
   have A23b := Aside0.mk (hlen_ ▸ A23.out)
   clear hlen_
   try go_wp2_with (first | ((with_reducible refine gate_callee (f := 55) rfl ?_); refine goesL_ (some 57) rfl rfl Try.func55 (by kernel_rfl) rfl #[.int .i64 a0, .int .i64 a1, .agg #[.bool ((decide (a2_0 < 0)) != (decide (a3_0 < 0))), .slice Ao45 t529.length co45, .int .i64 (wrap64 ((wrap64 (a2_1 - a3_1)) - 40)), .bool (decide (0 < t532.length))]] rfl (by (try simp only [List.map_toArray, List.map_cons, List.map_nil]); first | done | rfl | (simp only [List.length_drop, List.length_take]; rfl)) ?_; (with_reducible refine (environref02_Rounded.calls k a0 a1 ((decide (a2_0 < 0)) != (decide (a3_0 < 0))) (fun k_ => (some k_ ≠ (.slice Ao39 t523.length co39 : Value).ownBlock ∧ (some k_ ≠ (.slice Ao40 t526.length co40 : Value).ownBlock ∧ (k_ ≠ gb516 ∧ (k_ ≠ gb517 ∧ k_ ≠ gb518))))) _ _ t529 (wrap64 ((wrap64 (a2_1 - a3_1)) - 40)) (decide (0 < t532.length)) t535 t536 t537 _ ?side1 A23b.out).mono ?_); (case side1 => exact HO531.out); rintro e w46 ⟨rfl, hb⟩; refine ⟨_, rfl, ?_⟩; replace HO525 := Aside0.mk (Kd.R_below (by (with_reducible repeat (first | apply Kd.R_alloc | apply Kd.R_drewN | apply Kd.R_drew)); exact HO525.out) hb); replace HO528 := Aside0.mk (Kd.R_below (by (with_reducible repeat (first | apply Kd.R_alloc | apply Kd.R_drewN | apply Kd.R_drew)); exact HO528.out) hb); replace HO531 := Aside0.mk (Kd.V_below (by (with_reducible repeat (first | apply Kd.V_alloc | apply Kd.V_drewN | apply Kd.V_drew)); exact HO531.out) hb); replace HO534 := Aside0.mk (Kd.V_below (by (with_reducible repeat (first | apply Kd.V_alloc | apply Kd.V_drewN | apply Kd.V_drew)); exact HO534.out) hb); replace BK516 := Aside0.mk (bb BK516 hb); replace BK517 := Aside0.mk (bb BK517 hb); replace BK518 := Aside0.mk (bb BK518 hb); replace HB := Aside0.mk (below_step (bw HB) hb); (try clear hb); (try clear hb2); (try clear hk); (try clear hi); obtain ⟨hcz47_0, hcz47_1, hfz47_0, hfz47_1⟩ := cf2 BK518))
   refine bodyPost_ret (results_ct rfl _ _ gb518 29 #[.int .i64 t535, .int .i64 t536] (0, 0) _ rfl (by (with_reducible repeat (first | refine blk_drewN ?_ _ | refine blk_drew ?_ | refine blk_alloc ?_ _)); refine blk_put (cs := #[.int .i64 t535, .int .i64 0]) ?_ 1 _ rfl; (with_reducible repeat (first | refine blk_drewN ?_ _ | refine blk_drew ?_ | refine blk_alloc ?_ _)); refine blk_put (cs := #[.int .i64 0, .int .i64 0]) ?_ 0 _ rfl; (with_reducible repeat (first | refine blk_drewN ?_ _ | refine blk_drew ?_ | refine blk_alloc ?_ _)); exact BK518.out) Try.underlying29 rfl (by kernel_rfl)) rfl ?_
   exact ⟨by first | rfl | (simp [errW_none, errW_some] <;> rfl) | (simp [*, errW_none, errW_some] <;> rfl), bw HB⟩
 ·rw [if_neg c6] at H
  have c6b0 : (t519 == 0) = false := beq_eq_false_iff_ne.mpr c6
  have c6b1 : (t519 != 0) = true := bne_iff_ne.mpr c6
  simp only [Option.some.injEq, Prod.mk.injEq] at H
  obtain ⟨rfl, rfl, rfl⟩ := H
  go_enter Try.func28, Try.ntmps28
  go_wp2_with (first | ((with_reducible refine gate_dst (N := 6) rfl ?_); refine box_event ?hg (N := 6) ?hd (cs := #[.int .i64 a2_0, .int .i64 a2_1]) (t := 29) ?hr ?_; (case hd => rfl); (case hg => rfl); (case hr => first | (go_simp; done) | (go_simp; rfl)); intro gb516 hg w48 hbox hb; have BK516 := Aside0.mk (hbox); have GW516 := Aside0.mk (bs HB hg : w.heap.size ≤ gb516); replace HB := Aside0.mk (below_step (bw HB) hb); clear hb hbox hg) | ((with_reducible refine gate_dst (N := 7) rfl ?_); refine box_event ?hg (N := 7) ?hd (cs := #[.int .i64 a3_0, .int .i64 a3_1]) (t := 29) ?hr ?_; (case hd => rfl); (case hg => rfl); (case hr => first | (go_simp; done) | (go_simp; rfl)); intro gb517 hg w49 hbox hb; have BK517 := Aside0.mk (hbox); have GW517 := Aside0.mk (bs HB hg : w.heap.size ≤ gb517); replace HB := Aside0.mk (below_step (bw HB) hb); have NB516_517 := Aside0.mk (nl BK516 hg); have NB517_516 := Aside0.mk (ng BK516 hg); replace BK516 := Aside0.mk (bb BK516 hb); clear hb hbox hg) | ((with_reducible refine gate_dst (N := 8) rfl ?_); refine box_event ?hg (N := 8) ?hd (cs := #[.int .i64 0, .int .i64 0]) (t := 29) ?hr ?_; (case hd => rfl); (case hg => rfl); (case hr => first | (go_simp; done) | (go_simp; rfl)); intro gb518 hg w50 hbox hb; have BK518 := Aside0.mk (hbox); have GW518 := Aside0.mk (bs HB hg : w.heap.size ≤ gb518); replace HB := Aside0.mk (below_step (bw HB) hb); have NB516_518 := Aside0.mk (nl BK516 hg); have NB518_516 := Aside0.mk (ng BK516 hg); replace BK516 := Aside0.mk (bb BK516 hb); have NB517_518 := Aside0.mk (nl BK517 hg); have NB518_517 := Aside0.mk (ng BK517 hg); replace BK517 := Aside0.mk (bb BK517 hb); clear hb hbox hg; have hnb51 := NB516_517.out; have hnc51 := NB517_516.out; have hnb52 := NB516_518.out; have hnc52 := NB518_516.out; obtain ⟨hcz53_0, hcz53_1, hfz53_0, hfz53_1⟩ := cf2 BK516; have hnb54 := NB517_518.out; have hnc54 := NB518_517.out; obtain ⟨hcz55_0, hcz55_1, hfz55_0, hfz55_1⟩ := cf2 BK517) | ((with_reducible refine gate_callee (f := 53) rfl ?_); refine goesL_ (some 17) rfl rfl Try.func53 (by kernel_rfl) rfl #[.int .i64 a0, .int .i64 a1, .agg #[.int .i64 a2_0, .int .i64 a2_1], .agg #[.int .i64 a3_0, .int .i64 a3_1]] rfl (by (try simp only [List.map_toArray, List.map_cons, List.map_nil]); first | done | rfl | (simp only [List.length_drop, List.length_take]; rfl)) ?_; (with_reducible refine (environref02_right.calls k a0 a1 a2_0 a2_1 a3_0 a3_1 t519 _ A5.out).mono ?_); rintro e w56 ⟨rfl, hb⟩; refine ⟨_, rfl, ?_⟩; replace BK516 := Aside0.mk (bb BK516 hb); replace BK517 := Aside0.mk (bb BK517 hb); replace BK518 := Aside0.mk (bb BK518 hb); replace HB := Aside0.mk (below_step (bw HB) hb); (try clear hb); (try clear hb2); (try clear hk); (try clear hi); obtain ⟨hcz57_0, hcz57_1, hfz57_0, hfz57_1⟩ := cf2 BK518))
  refine bodyPost_ret (results_ct rfl _ _ gb518 29 #[.int .i64 0, .int .i64 0] (0, 0) _ rfl (by (with_reducible repeat (first | refine blk_drewN ?_ _ | refine blk_drew ?_ | refine blk_alloc ?_ _)); refine blk_put (cs := #[.int .i64 0, .int .i64 0]) ?_ 1 _ rfl; (with_reducible repeat (first | refine blk_drewN ?_ _ | refine blk_drew ?_ | refine blk_alloc ?_ _)); refine blk_put (cs := #[.int .i64 0, .int .i64 0]) ?_ 0 _ rfl; (with_reducible repeat (first | refine blk_drewN ?_ _ | refine blk_drew ?_ | refine blk_alloc ?_ _)); exact BK518.out) Try.underlying29 rfl (by kernel_rfl)) rfl ?_
  exact ⟨by first | rfl | (simp [errW_none, errW_some] <;> rfl) | (simp [*, errW_none, errW_some] <;> rfl), bw HB⟩
end Go.Proofs.Ytamkjpjibkabaaa.PR
