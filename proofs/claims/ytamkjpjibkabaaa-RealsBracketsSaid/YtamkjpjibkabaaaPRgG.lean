-- written by a program of this session out of the kit's print (its words and its form)
import Derived.Test.YtamkjpjibkabaaaPRgA
import Derived.Test.YtamkjpjibkabaaaPRgB
import Derived.Test.YtamkjpjibkabaaaPRgC
import Derived.Test.YtamkjpjibkabaaaPRgD
import Derived.Test.YtamkjpjibkabaaaPRsq
import Derived.Test.YtamkjpjibkabaaaPRx0
namespace Go.Proofs.Ytamkjpjibkabaaa.PR
open Go.RowKit Go.Proofs.YtamkjpjibkabaaaW.PrintWords Go.Proofs.YtamkjpjibkabaaaW.PrintLast Go.Proofs.YtamkjpjibkabaaaW.PrintMore
attribute [local go_sem] max2_int min2_int max_two min_two max_three min_three max_four min_four   -- for this text's walks alone
set_option linter.unusedVariables false
set_option linter.unusedSimpArgs false

/-! ### reals_Div: function 27 -/
def reals_Div.f (k : Nat) (a0 : Int) (a1 : Int) (a2_0 : Int) (a2_1 : Int) (a3_0 : Int) (a3_1 : Int) : Option (Int × Int × Int) := (reals_check.f k a0 a1 (([(⟨a2_0, a2_1⟩ : S29), (⟨a3_0, a3_1⟩ : S29)] : List (S29)))).bind fun bt198 => (if bt198.2 = 0 then (if a3_0 = 0 then (some (0, 0, 11)) else ((reals_magnitude.f a2_0).bind fun bt200 => ((reals_wide_digits.f bt200.1 bt200.2).bind fun t203 => ((reals_wide_scaled.f k bt200.1 bt200.2 (wrap64 (38 - t203))).bind fun bt204 => ((reals_magnitude.f a3_0).bind fun bt206 => ((reals_wide_over.f k bt204.1 bt204.2 bt206.2).bind fun bt208 => ((reals_exact_round.f k ((decide (a2_0 < 0)) != (decide (a3_0 < 0))) bt208.1 bt208.2.1 (wrap64 ((wrap64 (a2_1 - (wrap64 (38 - t203)))) - a3_1)) (bt208.2.2 != 0) bt198.1 a1).bind fun bt212 => (some (bt212.1, bt212.2.1, bt212.2.2))))))))) else (some (0, 0, bt198.2)))
theorem reals_Div.mono : ∀ a0 a1 a2 a3 a4 a5 k, LeO (reals_Div.f k a0 a1 a2 a3 a4 a5) (reals_Div.f (k + 1) a0 a1 a2 a3 a4 a5) := by
 intro a0 a1 a2 a3 a4 a5 k
 unfold reals_Div.f
 repeat' first
   | (with_reducible exact reals_check.mono _ _ _ _)
   | (with_reducible exact reals_exact_round.mono _ _ _ _ _ _ _ _)
   | (with_reducible exact reals_wide_over.mono _ _ _ _)
   | (with_reducible exact reals_wide_scaled.mono _ _ _ _)
   | (with_reducible exact LeO.refl _)
   | (with_reducible exact LeO.none _)
   | (with_reducible refine LeO.ite ?_ ?_)
   | (with_reducible refine LeO.bind ?_ (fun _ => ?_))
   | exact reals_check.mono _ _ _ _
   | exact reals_exact_round.mono _ _ _ _ _ _ _ _
   | exact reals_wide_over.mono _ _ _ _
   | exact reals_wide_scaled.mono _ _ _ _
   | exact LeO.none _
   | refine LeO.ite ?_ ?_
   | refine LeO.bind ?_ (fun _ => ?_)
def reals_Div.T8 : Bool × List (List Nat × List Nat) := (true, [([], []), ([], []), ([0, 1], [0, 1]), ([], []), ([3], [3]), ([4, 2], [4]), ([5], [5]), ([2, 6, 5], [2, 6]), ([7], [7]), ([8], [8]), ([8], [8]), ([], []), ([11, 9, 7, 0, 1, 2, 3, 4, 5, 6, 7, 8, 9, 11], [9, 11]), ([10, 12, 0, 1, 2, 3, 4, 5, 6, 7, 8, 9, 10, 11, 12], [10])])
def reals_Div.B8 : List Nat := [0, 0, 3, 0, 8, 31, 63, 127, 255, 511, 511, 0, 3071, 8191]
theorem reals_Div.tab8 : rtab .any (opsOf Try.f27 8) = reals_Div.T8 := by kernel_rfl
theorem reals_Div.bits8 : waitsOk reals_Div.T8.2 reals_Div.B8 = true := by kernel_rfl
set_option maxHeartbeats 8000000 in
set_option maxRecDepth 100000 in
theorem reals_Div.calls (k : Nat) (a0 : Int) (a1 : Int) (a2_0 : Int) (a2_1 : Int) (a3_0 : Int) (a3_1 : Int) (r1 : Int) (r2 : Int) (r3 : Int) (w : World) (h : reals_Div.f k a0 a1 a2_0 a2_1 a3_0 a3_1 = some (r1, r2, r3)) :
  Calls Try.prog 27 #[.int .i64 a0, .int .i64 a1, .agg #[.int .i64 a2_0, .int .i64 a2_1], .agg #[.int .i64 a3_0, .int .i64 a3_1]] w fun e w' => e = .returned (.tuple #[.agg #[.int .i64 r1, .int .i64 r2], .int .i64 r3]) ∧ Below w.heap.size w w' := by
 have hfld : ∀ (W : World) (x y : Int), (Instr.field 55 (.agg #[.int .u64 x, .int .u64 y]) 1).run Try.prog W = .ok (.int .u64 y) W := fun _ _ _ => by kernel_rfl
 have hu29 := Try.underlying29
 have hu55 := Try.underlying55
 have hu63 := Try.underlying63
 have HB := Aside0.mk (Below.refl w.heap.size w)
 have H : ((reals_check.f k a0 a1 (([(⟨a2_0, a2_1⟩ : S29), (⟨a3_0, a3_1⟩ : S29)] : List (S29)))).bind fun bt198 => (if bt198.2 = 0 then (if a3_0 = 0 then (some (0, 0, 11)) else ((reals_magnitude.f a2_0).bind fun bt200 => ((reals_wide_digits.f bt200.1 bt200.2).bind fun t203 => ((reals_wide_scaled.f k bt200.1 bt200.2 (wrap64 (38 - t203))).bind fun bt204 => ((reals_magnitude.f a3_0).bind fun bt206 => ((reals_wide_over.f k bt204.1 bt204.2 bt206.2).bind fun bt208 => ((reals_exact_round.f k ((decide (a2_0 < 0)) != (decide (a3_0 < 0))) bt208.1 bt208.2.1 (wrap64 ((wrap64 (a2_1 - (wrap64 (38 - t203)))) - a3_1)) (bt208.2.2 != 0) bt198.1 a1).bind fun bt212 => (some (bt212.1, bt212.2.1, bt212.2.2))))))))) else (some (0, 0, bt198.2)))) = some (r1, r2, r3) := h
 clear h
 obtain ⟨y195, hy195⟩ : ∃ y_ : List (S29), y_ = (([(⟨a2_0, a2_1⟩ : S29), (⟨a3_0, a3_1⟩ : S29)] : List (S29))) := ⟨_, rfl⟩
 replace H : ((reals_check.f k a0 a1 y195).bind fun bt198 => (if bt198.2 = 0 then (if a3_0 = 0 then (some (0, 0, 11)) else ((reals_magnitude.f a2_0).bind fun bt200 => ((reals_wide_digits.f bt200.1 bt200.2).bind fun t203 => ((reals_wide_scaled.f k bt200.1 bt200.2 (wrap64 (38 - t203))).bind fun bt204 => ((reals_magnitude.f a3_0).bind fun bt206 => ((reals_wide_over.f k bt204.1 bt204.2 bt206.2).bind fun bt208 => ((reals_exact_round.f k ((decide (a2_0 < 0)) != (decide (a3_0 < 0))) bt208.1 bt208.2.1 (wrap64 ((wrap64 (a2_1 - (wrap64 (38 - t203)))) - a3_1)) (bt208.2.2 != 0) bt198.1 a1).bind fun bt212 => (some (bt212.1, bt212.2.1, bt212.2.2))))))))) else (some (0, 0, bt198.2)))) = some (r1, r2, r3) := by first | (rw [hy195]; with_reducible exact H) | (have H2_ := (Option.bind_some _ _).symm.trans H; rw [hy195]; with_reducible exact H2_) | (have H2_ := (Option.bind_some _ _).symm.trans H; with_reducible exact H2_) | with_reducible exact H | (rw [hy195]; exact H) | exact H
 have Ny195 := Aside0.mk hy195
 clear hy195
 replace H := Option.bind_eq_some_iff.mp H
 obtain ⟨⟨t198, t199⟩, A50, H⟩ := H
 replace H : (if t199 = 0 then (if a3_0 = 0 then (some (0, 0, 11)) else ((reals_magnitude.f a2_0).bind fun bt200 => ((reals_wide_digits.f bt200.1 bt200.2).bind fun t203 => ((reals_wide_scaled.f k bt200.1 bt200.2 (wrap64 (38 - t203))).bind fun bt204 => ((reals_magnitude.f a3_0).bind fun bt206 => ((reals_wide_over.f k bt204.1 bt204.2 bt206.2).bind fun bt208 => ((reals_exact_round.f k ((decide (a2_0 < 0)) != (decide (a3_0 < 0))) bt208.1 bt208.2.1 (wrap64 ((wrap64 (a2_1 - (wrap64 (38 - t203)))) - a3_1)) (bt208.2.2 != 0) t198 a1).bind fun bt212 => (some (bt212.1, bt212.2.1, bt212.2.2))))))))) else (some (0, 0, t199))) = some (r1, r2, r3) := H
 have A5 := Aside0.mk A50
 clear A50
 by_cases c6 : t199 = 0
 ·rw [if_pos c6] at H
  have c6b0 : (t199 == 0) = true := beq_iff_eq.mpr c6
  have c6b1 : (t199 != 0) = false := bne_eq_false_iff_eq.mpr c6
  clear c6
  by_cases c7 : a3_0 = 0
  ·rw [if_pos c7] at H
   have c7b0 : (a3_0 == 0) = true := beq_iff_eq.mpr c7
   have c7b1 : (a3_0 != 0) = false := bne_eq_false_iff_eq.mpr c7
   clear c7
   simp only [Option.some.injEq, Prod.mk.injEq] at H
   obtain ⟨rfl, rfl, rfl⟩ := H
   go_enter Try.func27, Try.ntmps27
   go_wp2_with (first | ((with_reducible refine gate_dst (N := 6) rfl ?_); refine box_event ?hg (N := 6) ?hd (cs := #[.int .i64 a2_0, .int .i64 a2_1]) (t := 29) ?hr ?_; (case hd => rfl); (case hg => rfl); (case hr => first | (go_simp; done) | (go_simp; rfl)); intro gb192 hg w8 hbox hb; have n0_ := Aside0.mk (below_step (bw HB) hb); have n1_ := Aside0.mk (hbox); have n2_ := Aside0.mk (bs HB hg : w.heap.size ≤ gb192); have n3_ := Aside0.mk (bs HB hg : w.heap.size ≤ gb192); clear HB; have HB := n0_; have BK192 := n1_; have GW192 := n2_; have GE192 := n3_; clear n0_ n1_ n2_ n3_; clear hb hbox hg) | ((with_reducible refine gate_dst (N := 7) rfl ?_); refine box_event ?hg (N := 7) ?hd (cs := #[.int .i64 a3_0, .int .i64 a3_1]) (t := 29) ?hr ?_; (case hd => rfl); (case hg => rfl); (case hr => first | (go_simp; done) | (go_simp; rfl)); intro gb193 hg w9 hbox hb; have n0_ := Aside0.mk (bb BK192 hb); have n1_ := Aside0.mk (below_step (bw HB) hb); have n2_ := Aside0.mk (hbox); have n3_ := Aside0.mk (bs HB hg : w.heap.size ≤ gb193); have n4_ := Aside0.mk (bs HB hg : w.heap.size ≤ gb193); have n5_ := Aside0.mk (nl BK192 hg); have n6_ := Aside0.mk (ng BK192 hg); clear BK192; clear HB; have BK192 := n0_; have HB := n1_; have BK193 := n2_; have GW193 := n3_; have GE193 := n4_; have NB192_193 := n5_; have NB193_192 := n6_; clear n0_ n1_ n2_ n3_ n4_ n5_ n6_; clear hb hbox hg) | ((with_reducible refine gate_dst (N := 8) rfl ?_); refine box_event ?hg (N := 8) ?hd (cs := #[.int .i64 0, .int .i64 0]) (t := 29) ?hr ?_; (case hd => rfl); (case hg => rfl); (case hr => first | (go_simp; done) | (go_simp; rfl)); intro gb194 hg w10 hbox hb; have n0_ := Aside0.mk (bb BK192 hb); have n1_ := Aside0.mk (bb BK193 hb); have n2_ := Aside0.mk (below_step (bw HB) hb); have n3_ := Aside0.mk (hbox); have n4_ := Aside0.mk (bs HB hg : w.heap.size ≤ gb194); have n5_ := Aside0.mk (bs HB hg : w.heap.size ≤ gb194); have n6_ := Aside0.mk (nl BK192 hg); have n7_ := Aside0.mk (ng BK192 hg); have n8_ := Aside0.mk (nl BK193 hg); have n9_ := Aside0.mk (ng BK193 hg); clear BK192; clear BK193; clear HB; have BK192 := n0_; have BK193 := n1_; have HB := n2_; have BK194 := n3_; have GW194 := n4_; have GE194 := n5_; have NB192_194 := n6_; have NB194_192 := n7_; have NB193_194 := n8_; have NB194_193 := n9_; clear n0_ n1_ n2_ n3_ n4_ n5_ n6_ n7_ n8_ n9_; clear hb hbox hg; have hnb11 := NB192_193.out; have hnc11 := NB193_192.out; have hnb12 := NB192_194.out; have hnc12 := NB194_192.out; have hcz13_0 := bc BK192 0 rfl; have hcz13_1 := bc BK192 1 rfl; have hfz13_0 := blk_frozen BK192.out 0; have hfz13_1 := blk_frozen BK192.out 1; have hnb14 := NB193_194.out; have hnc14 := NB194_193.out; have hcz15_0 := bc BK193 0 rfl; have hcz15_1 := bc BK193 1 rfl; have hfz15_0 := blk_frozen BK193.out 0; have hfz15_1 := blk_frozen BK193.out 1) | ((with_reducible refine gate_dst (N := 21) rfl ?_); refine Kd.R_lit k29 _ 29 ?hg (N := 21) ?hd (xs := ([(⟨a2_0, a2_1⟩ : S29), (⟨a3_0, a3_1⟩ : S29)] : List (S29))) (inner := [.int .i64 a2_0, .int .i64 a2_1, .int .i64 a3_0, .int .i64 a3_1]) (ok := fun _ => True) (okp := fun _ => True) ?hr ?hp (fun _ hk => hk) trivial (Below.refl _ _) (Nat.le_refl _) (by simp) ?_; (case hd => rfl); (case hg => rfl); (case hr => first | (go_simp; done) | (go_simp; rfl)); (case hp => exact (Reps.c2 (show Kd.M k29 _ _ _ (⟨a2_0, a2_1⟩ : S29) [.int .i64 a2_0, .int .i64 a2_1] from (k29_mkM _ _ _ (⟨a2_0, a2_1⟩ : S29) )) (Reps.c2 (show Kd.M k29 _ _ _ (⟨a3_0, a3_1⟩ : S29) [.int .i64 a3_0, .int .i64 a3_1] from (k29_mkM _ _ _ (⟨a3_0, a3_1⟩ : S29) )) (Reps.none _ _)))); intro v196 w16 ho17 hb hg_ hnew_; clear hg_ hnew_; (first | rw [← Ny195.out] at ho17 | (simp only [Int.reduceToNat] at ho17; rw [← Ny195.out] at ho17)); have n0_ := Aside0.mk (Kd.R_lower (Kd.R_newB (Kd.R_newB (Kd.R_newB ho17 (g := gb192) (o := .cells #[.int .i64 a2_0, .int .i64 a2_1] 29 (0, 0)) (bk BK192)) (g := gb193) (o := .cells #[.int .i64 a3_0, .int .i64 a3_1] 29 (0, 0)) (bk BK193)) (g := gb194) (o := .cells #[.int .i64 0, .int .i64 0] 29 (0, 0)) (bk BK194)) (below_size (bw HB))); have n1_ := Aside0.mk (bb BK192 hb); have n2_ := Aside0.mk (bb BK193 hb); have n3_ := Aside0.mk (bb BK194 hb); have n4_ := Aside0.mk (below_step (bw HB) hb); clear BK192; clear BK193; clear BK194; clear HB; have HO197 := n0_; have BK192 := n1_; have BK193 := n2_; have BK194 := n3_; have HB := n4_; clear n0_ n1_ n2_ n3_ n4_; clear hb ho17; obtain ⟨Ao18, co18, eo18⟩ := Kd.R_slice HO197.out; subst eo18) | ((with_reducible refine gate_callee (f := 50) rfl ?_); refine goesL_ (some 22) rfl rfl Try.func50 (by kernel_rfl) rfl #[.int .i64 a0, .int .i64 a1, .slice Ao18 y195.length co18] rfl (by (try simp only [List.map_toArray, List.map_cons, List.map_nil]); first | done | rfl | (simp only [List.length_drop, List.length_take]; rfl)) ?_; (with_reducible refine (reals_check.calls k a0 a1 _ _ y195 t198 t199 _ ?side1 ?side2 A5.out).mono ?_); (case side1 => repeat (first | exact (Kd.R_reads' HO197.out).2.2 | (with_reducible refine Kd.C_alloc ?_ _) | (with_reducible refine Kd.C_drewN ?_ _) | (with_reducible refine Kd.C_drew ?_))); (case side2 => exact (Kd.R_reads' HO197.out).2.1); rintro e w19 ⟨rfl, hb⟩; refine ⟨_, rfl, ?_⟩; have n0_ := Aside0.mk (Kd.R_below (by (with_reducible repeat (first | apply Kd.R_alloc | apply Kd.R_drewN | apply Kd.R_drew)); exact HO197.out) hb); have n1_ := Aside0.mk (bb BK192 hb); have n2_ := Aside0.mk (bb BK193 hb); have n3_ := Aside0.mk (bb BK194 hb); have n4_ := Aside0.mk (below_step (bw HB) hb); clear HO197; clear BK192; clear BK193; clear BK194; clear HB; have HO197 := n0_; have BK192 := n1_; have BK193 := n2_; have BK194 := n3_; have HB := n4_; clear n0_ n1_ n2_ n3_ n4_; (try clear hb); (try clear hb2); (try clear hk); (try clear hi); have hcz20_0 := bc BK193 0 rfl; have hcz20_1 := bc BK193 1 rfl; have hfz20_0 := blk_frozen BK193.out 0; have hfz20_1 := blk_frozen BK193.out 1; have hcz21_0 := bc BK194 0 rfl; have hcz21_1 := bc BK194 1 rfl; have hfz21_0 := blk_frozen BK194.out 0; have hfz21_1 := blk_frozen BK194.out 1))
   refine bodyPost_ret (results_ct rfl _ _ gb194 29 #[.int .i64 0, .int .i64 0] (0, 0) _ rfl (by (with_reducible repeat (first | refine blk_drewN ?_ _ | refine blk_drew ?_ | refine blk_alloc ?_ _)); refine blk_put (cs := #[.int .i64 0, .int .i64 0]) ?_ 1 _ rfl; (with_reducible repeat (first | refine blk_drewN ?_ _ | refine blk_drew ?_ | refine blk_alloc ?_ _)); refine blk_put (cs := #[.int .i64 0, .int .i64 0]) ?_ 0 _ rfl; (with_reducible repeat (first | refine blk_drewN ?_ _ | refine blk_drew ?_ | refine blk_alloc ?_ _)); exact BK194.out) Try.underlying29 rfl (by kernel_rfl)) rfl ?_
   exact ⟨by first | rfl | (simp [errW_none, errW_some] <;> rfl) | (simp [*, errW_none, errW_some] <;> rfl), bw HB⟩
  ·rw [if_neg c7] at H
   have c7b0 : (a3_0 == 0) = false := beq_eq_false_iff_ne.mpr c7
   have c7b1 : (a3_0 != 0) = true := bne_iff_ne.mpr c7
   replace H := Option.bind_eq_some_iff.mp H
   obtain ⟨⟨t200, t201⟩, A220, H⟩ := H
   replace H : ((reals_wide_digits.f t200 t201).bind fun t203 => ((reals_wide_scaled.f k t200 t201 (wrap64 (38 - t203))).bind fun bt204 => ((reals_magnitude.f a3_0).bind fun bt206 => ((reals_wide_over.f k bt204.1 bt204.2 bt206.2).bind fun bt208 => ((reals_exact_round.f k ((decide (a2_0 < 0)) != (decide (a3_0 < 0))) bt208.1 bt208.2.1 (wrap64 ((wrap64 (a2_1 - (wrap64 (38 - t203)))) - a3_1)) (bt208.2.2 != 0) t198 a1).bind fun bt212 => (some (bt212.1, bt212.2.1, bt212.2.2))))))) = some (r1, r2, r3) := H
   have A22 := Aside0.mk A220
   clear A220
   replace H := Option.bind_eq_some_iff.mp H
   obtain ⟨t203, A230, H⟩ := H
   replace H : ((reals_wide_scaled.f k t200 t201 (wrap64 (38 - t203))).bind fun bt204 => ((reals_magnitude.f a3_0).bind fun bt206 => ((reals_wide_over.f k bt204.1 bt204.2 bt206.2).bind fun bt208 => ((reals_exact_round.f k ((decide (a2_0 < 0)) != (decide (a3_0 < 0))) bt208.1 bt208.2.1 (wrap64 ((wrap64 (a2_1 - (wrap64 (38 - t203)))) - a3_1)) (bt208.2.2 != 0) t198 a1).bind fun bt212 => (some (bt212.1, bt212.2.1, bt212.2.2)))))) = some (r1, r2, r3) := H
   have A23 := Aside0.mk A230
   clear A230
   replace H := Option.bind_eq_some_iff.mp H
   obtain ⟨⟨t204, t205⟩, A240, H⟩ := H
   replace H : ((reals_magnitude.f a3_0).bind fun bt206 => ((reals_wide_over.f k t204 t205 bt206.2).bind fun bt208 => ((reals_exact_round.f k ((decide (a2_0 < 0)) != (decide (a3_0 < 0))) bt208.1 bt208.2.1 (wrap64 ((wrap64 (a2_1 - (wrap64 (38 - t203)))) - a3_1)) (bt208.2.2 != 0) t198 a1).bind fun bt212 => (some (bt212.1, bt212.2.1, bt212.2.2))))) = some (r1, r2, r3) := H
   have A24 := Aside0.mk A240
   clear A240
   replace H := Option.bind_eq_some_iff.mp H
   obtain ⟨⟨t206, t207⟩, A250, H⟩ := H
   replace H : ((reals_wide_over.f k t204 t205 t207).bind fun bt208 => ((reals_exact_round.f k ((decide (a2_0 < 0)) != (decide (a3_0 < 0))) bt208.1 bt208.2.1 (wrap64 ((wrap64 (a2_1 - (wrap64 (38 - t203)))) - a3_1)) (bt208.2.2 != 0) t198 a1).bind fun bt212 => (some (bt212.1, bt212.2.1, bt212.2.2)))) = some (r1, r2, r3) := H
   have A25 := Aside0.mk A250
   clear A250
   replace H := Option.bind_eq_some_iff.mp H
   obtain ⟨⟨t208, t209, t210⟩, A260, H⟩ := H
   replace H : ((reals_exact_round.f k ((decide (a2_0 < 0)) != (decide (a3_0 < 0))) t208 t209 (wrap64 ((wrap64 (a2_1 - (wrap64 (38 - t203)))) - a3_1)) (t210 != 0) t198 a1).bind fun bt212 => (some (bt212.1, bt212.2.1, bt212.2.2))) = some (r1, r2, r3) := H
   have A26 := Aside0.mk A260
   clear A260
   replace H := Option.bind_eq_some_iff.mp H
   obtain ⟨⟨t212, t213, t214⟩, A270, H⟩ := H
   replace H : (some (t212, t213, t214)) = some (r1, r2, r3) := H
   have A27 := Aside0.mk A270
   clear A270
   simp only [Option.some.injEq, Prod.mk.injEq] at H
   obtain ⟨rfl, rfl, rfl⟩ := H
   go_enter Try.func27, Try.ntmps27
   try go_wp2_with (first | ((with_reducible refine gate_dst (N := 6) rfl ?_); refine box_event ?hg (N := 6) ?hd (cs := #[.int .i64 a2_0, .int .i64 a2_1]) (t := 29) ?hr ?_; (case hd => rfl); (case hg => rfl); (case hr => first | (go_simp; done) | (go_simp; rfl)); intro gb192 hg w28 hbox hb; have n0_ := Aside0.mk (below_step (bw HB) hb); have n1_ := Aside0.mk (hbox); have n2_ := Aside0.mk (bs HB hg : w.heap.size ≤ gb192); have n3_ := Aside0.mk (bs HB hg : w.heap.size ≤ gb192); clear HB; have HB := n0_; have BK192 := n1_; have GW192 := n2_; have GE192 := n3_; clear n0_ n1_ n2_ n3_; clear hb hbox hg) | ((with_reducible refine gate_dst (N := 7) rfl ?_); refine box_event ?hg (N := 7) ?hd (cs := #[.int .i64 a3_0, .int .i64 a3_1]) (t := 29) ?hr ?_; (case hd => rfl); (case hg => rfl); (case hr => first | (go_simp; done) | (go_simp; rfl)); intro gb193 hg w29 hbox hb; have n0_ := Aside0.mk (bb BK192 hb); have n1_ := Aside0.mk (below_step (bw HB) hb); have n2_ := Aside0.mk (hbox); have n3_ := Aside0.mk (bs HB hg : w.heap.size ≤ gb193); have n4_ := Aside0.mk (bs HB hg : w.heap.size ≤ gb193); have n5_ := Aside0.mk (nl BK192 hg); have n6_ := Aside0.mk (ng BK192 hg); clear BK192; clear HB; have BK192 := n0_; have HB := n1_; have BK193 := n2_; have GW193 := n3_; have GE193 := n4_; have NB192_193 := n5_; have NB193_192 := n6_; clear n0_ n1_ n2_ n3_ n4_ n5_ n6_; clear hb hbox hg) | ((with_reducible refine gate_dst (N := 8) rfl ?_); refine box_event ?hg (N := 8) ?hd (cs := #[.int .i64 0, .int .i64 0]) (t := 29) ?hr ?_; (case hd => rfl); (case hg => rfl); (case hr => first | (go_simp; done) | (go_simp; rfl)); intro gb194 hg w30 hbox hb; have n0_ := Aside0.mk (bb BK192 hb); have n1_ := Aside0.mk (bb BK193 hb); have n2_ := Aside0.mk (below_step (bw HB) hb); have n3_ := Aside0.mk (hbox); have n4_ := Aside0.mk (bs HB hg : w.heap.size ≤ gb194); have n5_ := Aside0.mk (bs HB hg : w.heap.size ≤ gb194); have n6_ := Aside0.mk (nl BK192 hg); have n7_ := Aside0.mk (ng BK192 hg); have n8_ := Aside0.mk (nl BK193 hg); have n9_ := Aside0.mk (ng BK193 hg); clear BK192; clear BK193; clear HB; have BK192 := n0_; have BK193 := n1_; have HB := n2_; have BK194 := n3_; have GW194 := n4_; have GE194 := n5_; have NB192_194 := n6_; have NB194_192 := n7_; have NB193_194 := n8_; have NB194_193 := n9_; clear n0_ n1_ n2_ n3_ n4_ n5_ n6_ n7_ n8_ n9_; clear hb hbox hg; have hnb31 := NB192_193.out; have hnc31 := NB193_192.out; have hnb32 := NB192_194.out; have hnc32 := NB194_192.out; have hcz33_0 := bc BK192 0 rfl; have hcz33_1 := bc BK192 1 rfl; have hfz33_0 := blk_frozen BK192.out 0; have hfz33_1 := blk_frozen BK192.out 1; have hnb34 := NB193_194.out; have hnc34 := NB194_193.out; have hcz35_0 := bc BK193 0 rfl; have hcz35_1 := bc BK193 1 rfl; have hfz35_0 := blk_frozen BK193.out 0; have hfz35_1 := blk_frozen BK193.out 1) | ((with_reducible refine gate_dst (N := 21) rfl ?_); refine Kd.R_lit k29 _ 29 ?hg (N := 21) ?hd (xs := ([(⟨a2_0, a2_1⟩ : S29), (⟨a3_0, a3_1⟩ : S29)] : List (S29))) (inner := [.int .i64 a2_0, .int .i64 a2_1, .int .i64 a3_0, .int .i64 a3_1]) (ok := fun _ => True) (okp := fun _ => True) ?hr ?hp (fun _ hk => hk) trivial (Below.refl _ _) (Nat.le_refl _) (by simp) ?_; (case hd => rfl); (case hg => rfl); (case hr => first | (go_simp; done) | (go_simp; rfl)); (case hp => exact (Reps.c2 (show Kd.M k29 _ _ _ (⟨a2_0, a2_1⟩ : S29) [.int .i64 a2_0, .int .i64 a2_1] from (k29_mkM _ _ _ (⟨a2_0, a2_1⟩ : S29) )) (Reps.c2 (show Kd.M k29 _ _ _ (⟨a3_0, a3_1⟩ : S29) [.int .i64 a3_0, .int .i64 a3_1] from (k29_mkM _ _ _ (⟨a3_0, a3_1⟩ : S29) )) (Reps.none _ _)))); intro v196 w36 ho37 hb hg_ hnew_; clear hg_ hnew_; (first | rw [← Ny195.out] at ho37 | (simp only [Int.reduceToNat] at ho37; rw [← Ny195.out] at ho37)); have n0_ := Aside0.mk (Kd.R_lower (Kd.R_newB (Kd.R_newB (Kd.R_newB ho37 (g := gb192) (o := .cells #[.int .i64 a2_0, .int .i64 a2_1] 29 (0, 0)) (bk BK192)) (g := gb193) (o := .cells #[.int .i64 a3_0, .int .i64 a3_1] 29 (0, 0)) (bk BK193)) (g := gb194) (o := .cells #[.int .i64 0, .int .i64 0] 29 (0, 0)) (bk BK194)) (below_size (bw HB))); have n1_ := Aside0.mk (bb BK192 hb); have n2_ := Aside0.mk (bb BK193 hb); have n3_ := Aside0.mk (bb BK194 hb); have n4_ := Aside0.mk (below_step (bw HB) hb); clear BK192; clear BK193; clear BK194; clear HB; have HO197 := n0_; have BK192 := n1_; have BK193 := n2_; have BK194 := n3_; have HB := n4_; clear n0_ n1_ n2_ n3_ n4_; clear hb ho37; obtain ⟨Ao38, co38, eo38⟩ := Kd.R_slice HO197.out; subst eo38) | ((with_reducible refine gate_callee (f := 50) rfl ?_); refine goesL_ (some 22) rfl rfl Try.func50 (by kernel_rfl) rfl #[.int .i64 a0, .int .i64 a1, .slice Ao38 y195.length co38] rfl (by (try simp only [List.map_toArray, List.map_cons, List.map_nil]); first | done | rfl | (simp only [List.length_drop, List.length_take]; rfl)) ?_; (with_reducible refine (reals_check.calls k a0 a1 _ _ y195 t198 t199 _ ?side1 ?side2 A5.out).mono ?_); (case side1 => repeat (first | exact (Kd.R_reads' HO197.out).2.2 | (with_reducible refine Kd.C_alloc ?_ _) | (with_reducible refine Kd.C_drewN ?_ _) | (with_reducible refine Kd.C_drew ?_))); (case side2 => exact (Kd.R_reads' HO197.out).2.1); rintro e w39 ⟨rfl, hb⟩; refine ⟨_, rfl, ?_⟩; have n0_ := Aside0.mk (Kd.R_below (by (with_reducible repeat (first | apply Kd.R_alloc | apply Kd.R_drewN | apply Kd.R_drew)); exact HO197.out) hb); have n1_ := Aside0.mk (bb BK192 hb); have n2_ := Aside0.mk (bb BK193 hb); have n3_ := Aside0.mk (bb BK194 hb); have n4_ := Aside0.mk (below_step (bw HB) hb); clear HO197; clear BK192; clear BK193; clear BK194; clear HB; have HO197 := n0_; have BK192 := n1_; have BK193 := n2_; have BK194 := n3_; have HB := n4_; clear n0_ n1_ n2_ n3_ n4_; (try clear hb); (try clear hb2); (try clear hk); (try clear hi); have hcz40_0 := bc BK193 0 rfl; have hcz40_1 := bc BK193 1 rfl; have hfz40_0 := blk_frozen BK193.out 0; have hfz40_1 := blk_frozen BK193.out 1; have hcz41_0 := bc BK192 0 rfl; have hcz41_1 := bc BK192 1 rfl; have hfz41_0 := blk_frozen BK192.out 0; have hfz41_1 := blk_frozen BK192.out 1) | ((with_reducible refine gate_callee (f := 46) rfl ?_); refine goesL_ (some 37) rfl rfl Try.func46 (by kernel_rfl) rfl #[.int .i64 a2_0] rfl (by (try simp only [List.map_toArray, List.map_cons, List.map_nil]); first | done | rfl | (simp only [List.length_drop, List.length_take]; rfl)) ?_; (with_reducible refine (reals_magnitude.calls a2_0 t200 t201 _ A22.out).mono ?_); rintro e w42 ⟨rfl, hb⟩; refine ⟨_, rfl, ?_⟩; have n0_ := Aside0.mk (Kd.R_below (by (with_reducible repeat (first | apply Kd.R_alloc | apply Kd.R_drewN | apply Kd.R_drew)); exact HO197.out) hb); have n1_ := Aside0.mk (bb BK192 hb); have n2_ := Aside0.mk (bb BK193 hb); have n3_ := Aside0.mk (bb BK194 hb); have n4_ := Aside0.mk (below_step (bw HB) hb); clear HO197; clear BK192; clear BK193; clear BK194; clear HB; have HO197 := n0_; have BK192 := n1_; have BK193 := n2_; have BK194 := n3_; have HB := n4_; clear n0_ n1_ n2_ n3_ n4_; (try clear hb); (try clear hb2); (try clear hk); (try clear hi)) | ((with_reducible refine gate_dst (N := 12) rfl ?_); refine box_event ?hg (N := 12) ?hd (cs := #[.int .u64 0, .int .u64 0]) (t := 55) ?hr ?_; (case hd => rfl); (case hg => rfl); (case hr => first | (go_simp; done) | (go_simp; rfl)); intro gb202 hg w43 hbox hb; have n0_ := Aside0.mk (Kd.R_below (by (with_reducible repeat (first | apply Kd.R_alloc | apply Kd.R_drewN | apply Kd.R_drew)); exact HO197.out) hb); have n1_ := Aside0.mk (bb BK192 hb); have n2_ := Aside0.mk (bb BK193 hb); have n3_ := Aside0.mk (bb BK194 hb); have n4_ := Aside0.mk (below_step (bw HB) hb); have n5_ := Aside0.mk (hbox); have n6_ := Aside0.mk (bs HB hg : w.heap.size ≤ gb202); have n7_ := Aside0.mk (bs HB hg : w.heap.size ≤ gb202); have n8_ := Aside0.mk (nl BK192 hg); have n9_ := Aside0.mk (ng BK192 hg); have n10_ := Aside0.mk (nl BK193 hg); have n11_ := Aside0.mk (ng BK193 hg); have n12_ := Aside0.mk (nl BK194 hg); have n13_ := Aside0.mk (ng BK194 hg); clear HO197; clear BK192; clear BK193; clear BK194; clear HB; have HO197 := n0_; have BK192 := n1_; have BK193 := n2_; have BK194 := n3_; have HB := n4_; have BK202 := n5_; have GW202 := n6_; have GE202 := n7_; have NB192_202 := n8_; have NB202_192 := n9_; have NB193_202 := n10_; have NB202_193 := n11_; have NB194_202 := n12_; have NB202_194 := n13_; clear n0_ n1_ n2_ n3_ n4_ n5_ n6_ n7_ n8_ n9_ n10_ n11_ n12_ n13_; clear hb hbox hg; have hnb44 := NB202_192.out; have hnc44 := NB192_202.out; have hnb45 := NB202_193.out; have hnc45 := NB193_202.out; have hnb46 := NB202_194.out; have hnc46 := NB194_202.out; have hcz47_0 := bc BK202 0 rfl; have hcz47_1 := bc BK202 1 rfl; have hfz47_0 := blk_frozen BK202.out 0; have hfz47_1 := blk_frozen BK202.out 1) | ((with_reducible refine gate_callee (f := 47) rfl ?_); refine goesL_ (some 39) rfl rfl Try.func47 (by kernel_rfl) rfl #[.agg #[.int .u64 t200, .int .u64 t201]] rfl (by (try simp only [List.map_toArray, List.map_cons, List.map_nil]); first | done | rfl | (simp only [List.length_drop, List.length_take]; rfl)) ?_; (with_reducible refine (reals_wide_digits.calls t200 t201 t203 _ A23.out).mono ?_); rintro e w48 ⟨rfl, hb⟩; refine ⟨_, rfl, ?_⟩; have n0_ := Aside0.mk (Kd.R_below (by (with_reducible repeat (first | apply Kd.R_alloc | apply Kd.R_drewN | apply Kd.R_drew)); exact (Kd.R_mono (Kd.R_far (p := ⟨gb202, 1, none⟩) (Kd.R_far (p := ⟨gb202, 0, none⟩) (Kd.R_types HO197.out BK202.out (by decide)) (fun _ hk => hk.2) (.int .u64 t200)) (fun _ hk => hk.2) (.int .u64 t201)) (fun _ h_ => h_.1))) hb); have n1_ := Aside0.mk (blk_below (g := gb192) (o := .cells #[.int .i64 a2_0, .int .i64 a2_1] 29 (0, 0)) (by (with_reducible repeat (first | refine blk_drewN ?_ _ | refine blk_drew ?_ | refine blk_alloc ?_ _)); refine blk_far ?_ NB192_202.out _; (with_reducible repeat (first | refine blk_drewN ?_ _ | refine blk_drew ?_ | refine blk_alloc ?_ _)); refine blk_far ?_ NB192_202.out _; (with_reducible repeat (first | refine blk_drewN ?_ _ | refine blk_drew ?_ | refine blk_alloc ?_ _)); exact BK192.out) hb); have n2_ := Aside0.mk (blk_below (g := gb193) (o := .cells #[.int .i64 a3_0, .int .i64 a3_1] 29 (0, 0)) (by (with_reducible repeat (first | refine blk_drewN ?_ _ | refine blk_drew ?_ | refine blk_alloc ?_ _)); refine blk_far ?_ NB193_202.out _; (with_reducible repeat (first | refine blk_drewN ?_ _ | refine blk_drew ?_ | refine blk_alloc ?_ _)); refine blk_far ?_ NB193_202.out _; (with_reducible repeat (first | refine blk_drewN ?_ _ | refine blk_drew ?_ | refine blk_alloc ?_ _)); exact BK193.out) hb); have n3_ := Aside0.mk (blk_below (g := gb194) (o := .cells #[.int .i64 0, .int .i64 0] 29 (0, 0)) (by (with_reducible repeat (first | refine blk_drewN ?_ _ | refine blk_drew ?_ | refine blk_alloc ?_ _)); refine blk_far ?_ NB194_202.out _; (with_reducible repeat (first | refine blk_drewN ?_ _ | refine blk_drew ?_ | refine blk_alloc ?_ _)); refine blk_far ?_ NB194_202.out _; (with_reducible repeat (first | refine blk_drewN ?_ _ | refine blk_drew ?_ | refine blk_alloc ?_ _)); exact BK194.out) hb); have n4_ := Aside0.mk (blk_below (g := gb202) (o := .cells #[.int .u64 t200, .int .u64 t201] 55 (0, 0)) (by (with_reducible repeat (first | refine blk_drewN ?_ _ | refine blk_drew ?_ | refine blk_alloc ?_ _)); refine blk_put (cs := #[.int .u64 t200, .int .u64 0]) ?_ 1 _ rfl; (with_reducible repeat (first | refine blk_drewN ?_ _ | refine blk_drew ?_ | refine blk_alloc ?_ _)); refine blk_put (cs := #[.int .u64 0, .int .u64 0]) ?_ 0 _ rfl; (with_reducible repeat (first | refine blk_drewN ?_ _ | refine blk_drew ?_ | refine blk_alloc ?_ _)); exact BK202.out) hb); have n5_ := Aside0.mk (below_step (bw HB) hb); clear HO197; clear BK192; clear BK193; clear BK194; clear BK202; clear HB; have HO197 := n0_; have BK192 := n1_; have BK193 := n2_; have BK194 := n3_; have BK202 := n4_; have HB := n5_; clear n0_ n1_ n2_ n3_ n4_ n5_; (try clear hb); (try clear hb2); (try clear hk); (try clear hi)))
   have n0_ := Aside0.mk (Kd.R_drew HO197.out)
   have n1_ := Aside0.mk (blk_drew BK192.out)
   have n2_ := Aside0.mk (blk_drew BK193.out)
   have n3_ := Aside0.mk (blk_drew BK194.out)
   have n4_ := Aside0.mk (blk_drew BK202.out)
   have n5_ := Aside0.mk (below_drew1 HB.out)
   clear HO197
   clear BK192
   clear BK193
   clear BK194
   clear BK202
   clear HB
   have HO197 := n0_
   have BK192 := n1_
   have BK193 := n2_
   have BK194 := n3_
   have BK202 := n4_
   have HB := n5_
   clear n0_ n1_ n2_ n3_ n4_ n5_
   refine start_ (n := 14) (S := fun w' => w'.cell? ⟨gb202, 0, none⟩ = some (.int .u64 t200) ∧ w'.cell? ⟨gb202, 1, none⟩ = some (.int .u64 t201) ∧ w'.cell? ⟨gb193, 0, none⟩ = some (.int .i64 a3_0) ∧ w'.cell? ⟨gb193, 1, none⟩ = some (.int .i64 a3_1)) (ds := []) #[false, false, false, false, false, false, false, false, false, false, false, false, false, false] (by kernel_rfl) rfl rfl ⟨(blk_cell BK202.out 0).trans rfl, (blk_cell BK202.out 1).trans rfl, (blk_cell BK193.out 0).trans rfl, (blk_cell BK193.out 1).trans rfl⟩ (fun hHeld => ?_); refine with_tabW reals_Div.tab8 reals_Div.bits8 (fun HT_ HW_ => ?_)
   generalize w48.drew = w49 at HO197 BK192 BK193 BK194 BK202 HB hHeld ⊢
   refine pure_ (i := 1) (N := some 43) (v := ?_) (a' := ?_) #[false, true, false, false, false, false, false, false, false, false, false, false, false, false] rfl rfl (any_of HT_.out (by kernel_rfl)) (fun _ _ _ h => h) (Or.inl ⟨by rfl, ?_⟩) ?_ ?_
   rotate_left
   ·intro w'
    go_simp
    with_reducible rfl
   rotate_left
   ·simp only [Act.put, List.setIfInBounds_toArray, List.set_cons_zero, List.set_cons_succ, i64_w, i32_w]
    rfl
   refine pure_ (i := 3) (N := some 45) (v := ?_) (a' := ?_) #[false, true, false, true, false, false, false, false, false, false, false, false, false, false] rfl rfl (any_of HT_.out (by kernel_rfl)) (fun _ _ _ h => h) (Or.inl ⟨by rfl, ?_⟩) ?_ ?_
   rotate_left
   ·intro w'
    go_simp
    with_reducible rfl
   rotate_left
   ·simp only [Act.put, List.setIfInBounds_toArray, List.set_cons_zero, List.set_cons_succ, i64_w, i32_w]
    rfl
   refine take_ (i := 0) (N := some 42) (v := ?_) (a' := ?_) #[true, true, false, true, false, false, false, false, false, false, false, false, false, false] rfl rfl (take_ofW HT_.out HW_.out (by kernel_rfl)) (fun _ _ _ h => h) (Or.inl ⟨by rfl, ?_⟩) hHeld ?_ ?_
   rotate_left
   ·rintro w' ⟨s0, s1, s2, s3⟩
    go_simp
    with_reducible rfl
   rotate_left
   ·simp only [Act.put, List.setIfInBounds_toArray, List.set_cons_zero, List.set_cons_succ, i64_w, i32_w]
    rfl
   refine take_ (i := 4) (N := some 46) (v := ?_) (a' := ?_) #[true, true, false, true, true, false, false, false, false, false, false, false, false, false] rfl rfl (take_ofW HT_.out HW_.out (by kernel_rfl)) (fun _ _ _ h => h) (Or.inl ⟨by rfl, ?_⟩) hHeld ?_ ?_
   rotate_left
   ·rintro w' ⟨s0, s1, s2, s3⟩
    go_simp
    with_reducible rfl
   rotate_left
   ·simp only [Act.put, List.setIfInBounds_toArray, List.set_cons_zero, List.set_cons_succ, i64_w, i32_w]
    rfl
   refine join_ (σ := Nat) 2 #[true, true, true, true, true, true, true, true, true, true, true, true, false, false] (fun s_ => [(44, .agg #[.int .u64 t204, .int .u64 t205]), (47, .agg #[.int .u64 t206, .int .u64 t207]), (49, .tuple #[.agg #[.int .u64 t208, .int .u64 t209], .int .u64 t210]), (14, .pointer (some ⟨s_, 0, none⟩)), (48, .int .u64 t207), (41, .tuple #[.agg #[.int .u64 t208, .int .u64 t209], .int .u64 t210]), (50, .agg #[.int .u64 t208, .int .u64 t209]), (51, .int .u64 t210)]) (fun s_ w' => (w'.cell? ⟨gb202, 0, none⟩ = some (.int .u64 t200) ∧ w'.cell? ⟨gb202, 1, none⟩ = some (.int .u64 t201) ∧ w'.cell? ⟨gb193, 0, none⟩ = some (.int .i64 a3_0) ∧ w'.cell? ⟨gb193, 1, none⟩ = some (.int .i64 a3_1)) ∧ (Kd.R k29 29 w' w.heap.size (fun k_ => k_ ≠ gb192 ∧ k_ ≠ gb193 ∧ k_ ≠ gb194) (.slice Ao38 y195.length co38) y195) ∧ (w'.heap[gb192]? = some (.cells #[.int .i64 a2_0, .int .i64 a2_1] 29 (0, 0))) ∧ (w'.heap[gb193]? = some (.cells #[.int .i64 a3_0, .int .i64 a3_1] 29 (0, 0))) ∧ (w'.heap[gb194]? = some (.cells #[.int .i64 0, .int .i64 0] 29 (0, 0))) ∧ (w'.heap[gb202]? = some (.cells #[.int .u64 t200, .int .u64 t201] 55 (0, 0))) ∧ (w'.heap[s_]? = some (.cells #[.int .u64 0, .int .u64 0] 55 (0, 0))) ∧ (w.heap.size ≤ s_) ∧ (w.heap.size ≤ s_) ∧ (gb192 ≠ s_) ∧ (s_ ≠ gb192) ∧ (gb193 ≠ s_) ∧ (s_ ≠ gb193) ∧ (gb194 ≠ s_) ∧ (s_ ≠ gb194) ∧ (gb202 ≠ s_) ∧ (s_ ≠ gb202) ∧ (Below w.heap.size w w')) ?_ ?_
   rotate_left
   ·intro hCont
    refine two_ (i := 2) (j := 11) (Ni := some 44) (Nj := some 14) #[true, true, true, true, true, false, false, false, false, false, false, false, false, false] #[true, true, false, true, true, false, false, false, false, false, false, true, false, false] rfl rfl rfl rfl (two_of HT_.out (by kernel_rfl)) (by decide) (by decide) (fun K hK => ?_) (fun K hK => ?_)
    ·skip
     refine goes_ Try.func60 (by kernel_rfl) rfl #[.agg #[.int .u64 t200, .int .u64 t201], .int .i64 (wrap64 (38 - t203))] (by rfl) rfl rfl (by (try simp only [List.map_toArray, List.map_cons, List.map_nil]); first | done | rfl | (simp only [List.length_drop, List.length_take]; rfl)) ?_
     with_reducible refine (reals_wide_scaled.calls k t200 t201 (wrap64 (38 - t203)) t204 t205 _ A24.out).mono ?_
     rintro e w50 ⟨rfl, hb⟩
     refine ⟨_, rfl, ?_⟩
     have n0_ := Aside0.mk (Kd.R_below (by (with_reducible repeat (first | apply Kd.R_alloc | apply Kd.R_drewN | apply Kd.R_drew)); exact HO197.out) hb)
     have n1_ := Aside0.mk (bb BK192 hb)
     have n2_ := Aside0.mk (bb BK193 hb)
     have n3_ := Aside0.mk (bb BK194 hb)
     have n4_ := Aside0.mk (bb BK202 hb)
     have n5_ := Aside0.mk (below_step (bw HB) hb)
     clear HO197
     clear BK192
     clear BK193
     clear BK194
     clear BK202
     clear HB
     have HO197 := n0_
     have BK192 := n1_
     have BK193 := n2_
     have BK194 := n3_
     have BK202 := n4_
     have HB := n5_
     clear n0_ n1_ n2_ n3_ n4_ n5_
     (try clear hb)
     (try clear hb2)
     (try clear hk)
     (try clear hi)
     refine hK.out _ _ ⟨(blk_cell BK202.out 0).trans rfl, (blk_cell BK202.out 1).trans rfl, (blk_cell BK193.out 0).trans rfl, (blk_cell BK193.out 1).trans rfl⟩ (fun hHeld => ?_)
     clear hK K
     refine norm_ (a' := ?_) ?_ ?_
     rotate_left
     ·show Act.put _ (some 44) _ = _
      simp only [Act.put, List.setIfInBounds_toArray, List.set_cons_zero, List.set_cons_succ, i64_w, i32_w]
      rfl
     refine two_ (i := 5) (j := 11) (Ni := some 47) (Nj := some 14) #[true, true, true, true, true, true, false, false, false, false, false, false, false, false] #[true, true, true, true, true, false, false, false, false, false, false, true, false, false] rfl rfl rfl rfl (two_of HT_.out (by kernel_rfl)) (by decide) (by decide) (fun K hK => ?_) (fun K hK => ?_)
     ·skip
      refine goes_ Try.func46 (by kernel_rfl) rfl #[.int .i64 a3_0] (by rfl) rfl rfl (by (try simp only [List.map_toArray, List.map_cons, List.map_nil]); first | done | rfl | (simp only [List.length_drop, List.length_take]; rfl)) ?_
      with_reducible refine (reals_magnitude.calls a3_0 t206 t207 _ A25.out).mono ?_
      rintro e w51 ⟨rfl, hb⟩
      refine ⟨_, rfl, ?_⟩
      have n0_ := Aside0.mk (Kd.R_below (by (with_reducible repeat (first | apply Kd.R_alloc | apply Kd.R_drewN | apply Kd.R_drew)); exact HO197.out) hb)
      have n1_ := Aside0.mk (bb BK192 hb)
      have n2_ := Aside0.mk (bb BK193 hb)
      have n3_ := Aside0.mk (bb BK194 hb)
      have n4_ := Aside0.mk (bb BK202 hb)
      have n5_ := Aside0.mk (below_step (bw HB) hb)
      clear HO197
      clear BK192
      clear BK193
      clear BK194
      clear BK202
      clear HB
      have HO197 := n0_
      have BK192 := n1_
      have BK193 := n2_
      have BK194 := n3_
      have BK202 := n4_
      have HB := n5_
      clear n0_ n1_ n2_ n3_ n4_ n5_
      (try clear hb)
      (try clear hb2)
      (try clear hk)
      (try clear hi)
      refine hK.out _ _ ⟨(blk_cell BK202.out 0).trans rfl, (blk_cell BK202.out 1).trans rfl, (blk_cell BK193.out 0).trans rfl, (blk_cell BK193.out 1).trans rfl⟩ (fun hHeld => ?_)
      clear hK K
      refine norm_ (a' := ?_) ?_ ?_
      rotate_left
      ·show Act.put _ (some 47) _ = _
       simp only [Act.put, List.setIfInBounds_toArray, List.set_cons_zero, List.set_cons_succ, i64_w, i32_w]
       rfl
      refine pure_ (i := 6) (N := some 48) (v := ?_) (a' := ?_) #[true, true, true, true, true, true, true, false, false, false, false, false, false, false] rfl rfl (any_of HT_.out (by kernel_rfl)) (fun _ _ _ h => h) (Or.inl ⟨by rfl, ?_⟩) ?_ ?_
      rotate_left
      ·intro w'
       go_simp
       with_reducible rfl
      rotate_left
      ·simp only [Act.put, List.setIfInBounds_toArray, List.set_cons_zero, List.set_cons_succ, i64_w, i32_w]
       rfl
      refine two_ (i := 7) (j := 11) (Ni := some 49) (Nj := some 14) #[true, true, true, true, true, true, true, true, false, false, false, false, false, false] #[true, true, true, true, true, true, true, false, false, false, false, true, false, false] rfl rfl rfl rfl (two_of HT_.out (by kernel_rfl)) (by decide) (by decide) (fun K hK => ?_) (fun K hK => ?_)
      ·skip
       refine goes_ Try.func61 (by kernel_rfl) rfl #[.agg #[.int .u64 t204, .int .u64 t205], .int .u64 t207] (by rfl) rfl rfl (by (try simp only [List.map_toArray, List.map_cons, List.map_nil]); first | done | rfl | (simp only [List.length_drop, List.length_take]; rfl)) ?_
       with_reducible refine (reals_wide_over.calls k t204 t205 t207 t208 t209 t210 _ A26.out).mono ?_
       rintro e w52 ⟨rfl, hb⟩
       refine ⟨_, rfl, ?_⟩
       have n0_ := Aside0.mk (Kd.R_below (by (with_reducible repeat (first | apply Kd.R_alloc | apply Kd.R_drewN | apply Kd.R_drew)); exact HO197.out) hb)
       have n1_ := Aside0.mk (bb BK192 hb)
       have n2_ := Aside0.mk (bb BK193 hb)
       have n3_ := Aside0.mk (bb BK194 hb)
       have n4_ := Aside0.mk (bb BK202 hb)
       have n5_ := Aside0.mk (below_step (bw HB) hb)
       clear HO197
       clear BK192
       clear BK193
       clear BK194
       clear BK202
       clear HB
       have HO197 := n0_
       have BK192 := n1_
       have BK193 := n2_
       have BK194 := n3_
       have BK202 := n4_
       have HB := n5_
       clear n0_ n1_ n2_ n3_ n4_ n5_
       (try clear hb)
       (try clear hb2)
       (try clear hk)
       (try clear hi)
       refine hK.out _ _ ⟨(blk_cell BK202.out 0).trans rfl, (blk_cell BK202.out 1).trans rfl, (blk_cell BK193.out 0).trans rfl, (blk_cell BK193.out 1).trans rfl⟩ (fun hHeld => ?_)
       clear hK K
       refine norm_ (a' := ?_) ?_ ?_
       rotate_left
       ·show Act.put _ (some 49) _ = _
        simp only [Act.put, List.setIfInBounds_toArray, List.set_cons_zero, List.set_cons_succ, i64_w, i32_w]
        rfl
       refine pure_ (i := 8) (N := some 41) (v := ?_) (a' := ?_) #[true, true, true, true, true, true, true, true, true, false, false, false, false, false] rfl rfl (any_of HT_.out (by kernel_rfl)) (fun _ _ _ h => h) (Or.inl ⟨by rfl, ?_⟩) ?_ ?_
       rotate_left
       ·intro w'
        go_simp
        with_reducible rfl
       rotate_left
       ·simp only [Act.put, List.setIfInBounds_toArray, List.set_cons_zero, List.set_cons_succ, i64_w, i32_w]
        rfl
       refine pure_ (i := 9) (N := some 50) (v := ?_) (a' := ?_) #[true, true, true, true, true, true, true, true, true, true, false, false, false, false] rfl rfl (any_of HT_.out (by kernel_rfl)) (fun _ _ _ h => h) (Or.inl ⟨by rfl, ?_⟩) ?_ ?_
       rotate_left
       ·intro w'
        go_simp
        with_reducible rfl
       rotate_left
       ·simp only [Act.put, List.setIfInBounds_toArray, List.set_cons_zero, List.set_cons_succ, i64_w, i32_w]
        rfl
       refine pure_ (i := 10) (N := some 51) (v := ?_) (a' := ?_) #[true, true, true, true, true, true, true, true, true, true, true, false, false, false] rfl rfl (any_of HT_.out (by kernel_rfl)) (fun _ _ _ h => h) (Or.inl ⟨by rfl, ?_⟩) ?_ ?_
       rotate_left
       ·intro w'
        go_simp
        with_reducible rfl
       rotate_left
       ·simp only [Act.put, List.setIfInBounds_toArray, List.set_cons_zero, List.set_cons_succ, i64_w, i32_w]
        rfl
       refine one_ (i := 11) (N := some 14) #[true, true, true, true, true, true, true, true, true, true, true, true, false, false] rfl rfl (one_of HT_.out (by kernel_rfl)) (by decide) (fun K hK => ?_)
       refine box_step ?hg (N := 14) ?hd (cs := #[.int .u64 0, .int .u64 0]) (t := 55) ?hr ?_; (case hd => rfl); (case hg => rfl); (case hr => first | (go_simp; done) | (go_simp; rfl))
       intro gb211 hg w53 hbox hb
       have n0_ := Aside0.mk (Kd.R_below (by (with_reducible repeat (first | apply Kd.R_alloc | apply Kd.R_drewN | apply Kd.R_drew)); exact HO197.out) hb)
       have n1_ := Aside0.mk (bb BK192 hb)
       have n2_ := Aside0.mk (bb BK193 hb)
       have n3_ := Aside0.mk (bb BK194 hb)
       have n4_ := Aside0.mk (bb BK202 hb)
       have n5_ := Aside0.mk (below_step (bw HB) hb)
       have n6_ := Aside0.mk (hbox)
       have n7_ := Aside0.mk (bs HB hg : w.heap.size ≤ gb211)
       have n8_ := Aside0.mk (bs HB hg : w.heap.size ≤ gb211)
       have n9_ := Aside0.mk (nl BK192 hg)
       have n10_ := Aside0.mk (ng BK192 hg)
       have n11_ := Aside0.mk (nl BK193 hg)
       have n12_ := Aside0.mk (ng BK193 hg)
       have n13_ := Aside0.mk (nl BK194 hg)
       have n14_ := Aside0.mk (ng BK194 hg)
       have n15_ := Aside0.mk (nl BK202 hg)
       have n16_ := Aside0.mk (ng BK202 hg)
       clear HO197
       clear BK192
       clear BK193
       clear BK194
       clear BK202
       clear HB
       have HO197 := n0_
       have BK192 := n1_
       have BK193 := n2_
       have BK194 := n3_
       have BK202 := n4_
       have HB := n5_
       have BK211 := n6_
       have GW211 := n7_
       have GE211 := n8_
       have NB192_211 := n9_
       have NB211_192 := n10_
       have NB193_211 := n11_
       have NB211_193 := n12_
       have NB194_211 := n13_
       have NB211_194 := n14_
       have NB202_211 := n15_
       have NB211_202 := n16_
       clear n0_ n1_ n2_ n3_ n4_ n5_ n6_ n7_ n8_ n9_ n10_ n11_ n12_ n13_ n14_ n15_ n16_
       clear hb hbox hg
       refine hK.out _ _ ⟨(blk_cell BK202.out 0).trans rfl, (blk_cell BK202.out 1).trans rfl, (blk_cell BK193.out 0).trans rfl, (blk_cell BK193.out 1).trans rfl⟩ (fun hHeld => ?_)
       clear hK K
       refine norm_ (a' := ?_) ?_ ?_
       rotate_left
       ·show Act.put _ (some 14) _ = _
        simp only [Act.put, List.setIfInBounds_toArray, List.set_cons_zero, List.set_cons_succ, i64_w, i32_w]
        rfl
       exact norm_ (by simp only [putAll, Act.put, List.setIfInBounds_toArray, List.set_cons_zero, List.set_cons_succ]) (hCont (gb211) _ ⟨hHeld, (by (with_reducible repeat (first | apply Kd.R_alloc | apply Kd.R_drewN | apply Kd.R_drew)); exact Kd.R_mono HO197.out (fun _ hk => ⟨hk.1.1.2, ⟨hk.1.2, hk.2⟩⟩)), (bk BK192), (bk BK193), (bk BK194), (bk BK202), (bk BK211), GW211.out, GE211.out, NB192_211.out, NB211_192.out, NB193_211.out, NB211_193.out, NB194_211.out, NB211_194.out, NB202_211.out, NB211_202.out, (bw HB)⟩)
      ·skip
       refine box_step ?hg (N := 14) ?hd (cs := #[.int .u64 0, .int .u64 0]) (t := 55) ?hr ?_; (case hd => rfl); (case hg => rfl); (case hr => first | (go_simp; done) | (go_simp; rfl))
       intro gb211 hg w52 hbox hb
       have n0_ := Aside0.mk (Kd.R_below (by (with_reducible repeat (first | apply Kd.R_alloc | apply Kd.R_drewN | apply Kd.R_drew)); exact HO197.out) hb)
       have n1_ := Aside0.mk (bb BK192 hb)
       have n2_ := Aside0.mk (bb BK193 hb)
       have n3_ := Aside0.mk (bb BK194 hb)
       have n4_ := Aside0.mk (bb BK202 hb)
       have n5_ := Aside0.mk (below_step (bw HB) hb)
       have n6_ := Aside0.mk (hbox)
       have n7_ := Aside0.mk (bs HB hg : w.heap.size ≤ gb211)
       have n8_ := Aside0.mk (bs HB hg : w.heap.size ≤ gb211)
       have n9_ := Aside0.mk (nl BK192 hg)
       have n10_ := Aside0.mk (ng BK192 hg)
       have n11_ := Aside0.mk (nl BK193 hg)
       have n12_ := Aside0.mk (ng BK193 hg)
       have n13_ := Aside0.mk (nl BK194 hg)
       have n14_ := Aside0.mk (ng BK194 hg)
       have n15_ := Aside0.mk (nl BK202 hg)
       have n16_ := Aside0.mk (ng BK202 hg)
       clear HO197
       clear BK192
       clear BK193
       clear BK194
       clear BK202
       clear HB
       have HO197 := n0_
       have BK192 := n1_
       have BK193 := n2_
       have BK194 := n3_
       have BK202 := n4_
       have HB := n5_
       have BK211 := n6_
       have GW211 := n7_
       have GE211 := n8_
       have NB192_211 := n9_
       have NB211_192 := n10_
       have NB193_211 := n11_
       have NB211_193 := n12_
       have NB194_211 := n13_
       have NB211_194 := n14_
       have NB202_211 := n15_
       have NB211_202 := n16_
       clear n0_ n1_ n2_ n3_ n4_ n5_ n6_ n7_ n8_ n9_ n10_ n11_ n12_ n13_ n14_ n15_ n16_
       clear hb hbox hg
       refine hK.out _ _ ⟨(blk_cell BK202.out 0).trans rfl, (blk_cell BK202.out 1).trans rfl, (blk_cell BK193.out 0).trans rfl, (blk_cell BK193.out 1).trans rfl⟩ (fun hHeld => ?_)
       clear hK K
       refine norm_ (a' := ?_) ?_ ?_
       rotate_left
       ·show Act.put _ (some 14) _ = _
        simp only [Act.put, List.setIfInBounds_toArray, List.set_cons_zero, List.set_cons_succ, i64_w, i32_w]
        rfl
       refine one_ (i := 7) (N := some 49) #[true, true, true, true, true, true, true, true, false, false, false, true, false, false] rfl rfl (one_of HT_.out (by kernel_rfl)) (by decide) (fun K hK => ?_)
       refine goes_ Try.func61 (by kernel_rfl) rfl #[.agg #[.int .u64 t204, .int .u64 t205], .int .u64 t207] (by rfl) rfl rfl (by (try simp only [List.map_toArray, List.map_cons, List.map_nil]); first | done | rfl | (simp only [List.length_drop, List.length_take]; rfl)) ?_
       with_reducible refine (reals_wide_over.calls k t204 t205 t207 t208 t209 t210 _ A26.out).mono ?_
       rintro e w53 ⟨rfl, hb⟩
       refine ⟨_, rfl, ?_⟩
       have n0_ := Aside0.mk (Kd.R_below (by (with_reducible repeat (first | apply Kd.R_alloc | apply Kd.R_drewN | apply Kd.R_drew)); exact HO197.out) hb)
       have n1_ := Aside0.mk (bb BK192 hb)
       have n2_ := Aside0.mk (bb BK193 hb)
       have n3_ := Aside0.mk (bb BK194 hb)
       have n4_ := Aside0.mk (bb BK202 hb)
       have n5_ := Aside0.mk (bb BK211 hb)
       have n6_ := Aside0.mk (below_step (bw HB) hb)
       clear HO197
       clear BK192
       clear BK193
       clear BK194
       clear BK202
       clear BK211
       clear HB
       have HO197 := n0_
       have BK192 := n1_
       have BK193 := n2_
       have BK194 := n3_
       have BK202 := n4_
       have BK211 := n5_
       have HB := n6_
       clear n0_ n1_ n2_ n3_ n4_ n5_ n6_
       (try clear hb)
       (try clear hb2)
       (try clear hk)
       (try clear hi)
       refine hK.out _ _ ⟨(blk_cell BK202.out 0).trans rfl, (blk_cell BK202.out 1).trans rfl, (blk_cell BK193.out 0).trans rfl, (blk_cell BK193.out 1).trans rfl⟩ (fun hHeld => ?_)
       clear hK K
       refine norm_ (a' := ?_) ?_ ?_
       rotate_left
       ·show Act.put _ (some 49) _ = _
        simp only [Act.put, List.setIfInBounds_toArray, List.set_cons_zero, List.set_cons_succ, i64_w, i32_w]
        rfl
       refine pure_ (i := 8) (N := some 41) (v := ?_) (a' := ?_) #[true, true, true, true, true, true, true, true, true, false, false, true, false, false] rfl rfl (any_of HT_.out (by kernel_rfl)) (fun _ _ _ h => h) (Or.inl ⟨by rfl, ?_⟩) ?_ ?_
       rotate_left
       ·intro w'
        go_simp
        with_reducible rfl
       rotate_left
       ·simp only [Act.put, List.setIfInBounds_toArray, List.set_cons_zero, List.set_cons_succ, i64_w, i32_w]
        rfl
       refine pure_ (i := 9) (N := some 50) (v := ?_) (a' := ?_) #[true, true, true, true, true, true, true, true, true, true, false, true, false, false] rfl rfl (any_of HT_.out (by kernel_rfl)) (fun _ _ _ h => h) (Or.inl ⟨by rfl, ?_⟩) ?_ ?_
       rotate_left
       ·intro w'
        go_simp
        with_reducible rfl
       rotate_left
       ·simp only [Act.put, List.setIfInBounds_toArray, List.set_cons_zero, List.set_cons_succ, i64_w, i32_w]
        rfl
       refine pure_ (i := 10) (N := some 51) (v := ?_) (a' := ?_) #[true, true, true, true, true, true, true, true, true, true, true, true, false, false] rfl rfl (any_of HT_.out (by kernel_rfl)) (fun _ _ _ h => h) (Or.inl ⟨by rfl, ?_⟩) ?_ ?_
       rotate_left
       ·intro w'
        go_simp
        with_reducible rfl
       rotate_left
       ·simp only [Act.put, List.setIfInBounds_toArray, List.set_cons_zero, List.set_cons_succ, i64_w, i32_w]
        rfl
       exact norm_ (by simp only [putAll, Act.put, List.setIfInBounds_toArray, List.set_cons_zero, List.set_cons_succ]) (hCont (gb211) _ ⟨hHeld, (by (with_reducible repeat (first | apply Kd.R_alloc | apply Kd.R_drewN | apply Kd.R_drew)); exact Kd.R_mono HO197.out (fun _ hk => ⟨hk.1.1.2, ⟨hk.1.2, hk.2⟩⟩)), (bk BK192), (bk BK193), (bk BK194), (bk BK202), (bk BK211), GW211.out, GE211.out, NB192_211.out, NB211_192.out, NB193_211.out, NB211_193.out, NB194_211.out, NB211_194.out, NB202_211.out, NB211_202.out, (bw HB)⟩)
     ·skip
      refine box_step ?hg (N := 14) ?hd (cs := #[.int .u64 0, .int .u64 0]) (t := 55) ?hr ?_; (case hd => rfl); (case hg => rfl); (case hr => first | (go_simp; done) | (go_simp; rfl))
      intro gb211 hg w51 hbox hb
      have n0_ := Aside0.mk (Kd.R_below (by (with_reducible repeat (first | apply Kd.R_alloc | apply Kd.R_drewN | apply Kd.R_drew)); exact HO197.out) hb)
      have n1_ := Aside0.mk (bb BK192 hb)
      have n2_ := Aside0.mk (bb BK193 hb)
      have n3_ := Aside0.mk (bb BK194 hb)
      have n4_ := Aside0.mk (bb BK202 hb)
      have n5_ := Aside0.mk (below_step (bw HB) hb)
      have n6_ := Aside0.mk (hbox)
      have n7_ := Aside0.mk (bs HB hg : w.heap.size ≤ gb211)
      have n8_ := Aside0.mk (bs HB hg : w.heap.size ≤ gb211)
      have n9_ := Aside0.mk (nl BK192 hg)
      have n10_ := Aside0.mk (ng BK192 hg)
      have n11_ := Aside0.mk (nl BK193 hg)
      have n12_ := Aside0.mk (ng BK193 hg)
      have n13_ := Aside0.mk (nl BK194 hg)
      have n14_ := Aside0.mk (ng BK194 hg)
      have n15_ := Aside0.mk (nl BK202 hg)
      have n16_ := Aside0.mk (ng BK202 hg)
      clear HO197
      clear BK192
      clear BK193
      clear BK194
      clear BK202
      clear HB
      have HO197 := n0_
      have BK192 := n1_
      have BK193 := n2_
      have BK194 := n3_
      have BK202 := n4_
      have HB := n5_
      have BK211 := n6_
      have GW211 := n7_
      have GE211 := n8_
      have NB192_211 := n9_
      have NB211_192 := n10_
      have NB193_211 := n11_
      have NB211_193 := n12_
      have NB194_211 := n13_
      have NB211_194 := n14_
      have NB202_211 := n15_
      have NB211_202 := n16_
      clear n0_ n1_ n2_ n3_ n4_ n5_ n6_ n7_ n8_ n9_ n10_ n11_ n12_ n13_ n14_ n15_ n16_
      clear hb hbox hg
      refine hK.out _ _ ⟨(blk_cell BK202.out 0).trans rfl, (blk_cell BK202.out 1).trans rfl, (blk_cell BK193.out 0).trans rfl, (blk_cell BK193.out 1).trans rfl⟩ (fun hHeld => ?_)
      clear hK K
      refine norm_ (a' := ?_) ?_ ?_
      rotate_left
      ·show Act.put _ (some 14) _ = _
       simp only [Act.put, List.setIfInBounds_toArray, List.set_cons_zero, List.set_cons_succ, i64_w, i32_w]
       rfl
      refine one_ (i := 5) (N := some 47) #[true, true, true, true, true, true, false, false, false, false, false, true, false, false] rfl rfl (one_of HT_.out (by kernel_rfl)) (by decide) (fun K hK => ?_)
      refine goes_ Try.func46 (by kernel_rfl) rfl #[.int .i64 a3_0] (by rfl) rfl rfl (by (try simp only [List.map_toArray, List.map_cons, List.map_nil]); first | done | rfl | (simp only [List.length_drop, List.length_take]; rfl)) ?_
      with_reducible refine (reals_magnitude.calls a3_0 t206 t207 _ A25.out).mono ?_
      rintro e w52 ⟨rfl, hb⟩
      refine ⟨_, rfl, ?_⟩
      have n0_ := Aside0.mk (Kd.R_below (by (with_reducible repeat (first | apply Kd.R_alloc | apply Kd.R_drewN | apply Kd.R_drew)); exact HO197.out) hb)
      have n1_ := Aside0.mk (bb BK192 hb)
      have n2_ := Aside0.mk (bb BK193 hb)
      have n3_ := Aside0.mk (bb BK194 hb)
      have n4_ := Aside0.mk (bb BK202 hb)
      have n5_ := Aside0.mk (bb BK211 hb)
      have n6_ := Aside0.mk (below_step (bw HB) hb)
      clear HO197
      clear BK192
      clear BK193
      clear BK194
      clear BK202
      clear BK211
      clear HB
      have HO197 := n0_
      have BK192 := n1_
      have BK193 := n2_
      have BK194 := n3_
      have BK202 := n4_
      have BK211 := n5_
      have HB := n6_
      clear n0_ n1_ n2_ n3_ n4_ n5_ n6_
      (try clear hb)
      (try clear hb2)
      (try clear hk)
      (try clear hi)
      refine hK.out _ _ ⟨(blk_cell BK202.out 0).trans rfl, (blk_cell BK202.out 1).trans rfl, (blk_cell BK193.out 0).trans rfl, (blk_cell BK193.out 1).trans rfl⟩ (fun hHeld => ?_)
      clear hK K
      refine norm_ (a' := ?_) ?_ ?_
      rotate_left
      ·show Act.put _ (some 47) _ = _
       simp only [Act.put, List.setIfInBounds_toArray, List.set_cons_zero, List.set_cons_succ, i64_w, i32_w]
       rfl
      refine pure_ (i := 6) (N := some 48) (v := ?_) (a' := ?_) #[true, true, true, true, true, true, true, false, false, false, false, true, false, false] rfl rfl (any_of HT_.out (by kernel_rfl)) (fun _ _ _ h => h) (Or.inl ⟨by rfl, ?_⟩) ?_ ?_
      rotate_left
      ·intro w'
       go_simp
       with_reducible rfl
      rotate_left
      ·simp only [Act.put, List.setIfInBounds_toArray, List.set_cons_zero, List.set_cons_succ, i64_w, i32_w]
       rfl
      refine one_ (i := 7) (N := some 49) #[true, true, true, true, true, true, true, true, false, false, false, true, false, false] rfl rfl (one_of HT_.out (by kernel_rfl)) (by decide) (fun K hK => ?_)
      refine goes_ Try.func61 (by kernel_rfl) rfl #[.agg #[.int .u64 t204, .int .u64 t205], .int .u64 t207] (by rfl) rfl rfl (by (try simp only [List.map_toArray, List.map_cons, List.map_nil]); first | done | rfl | (simp only [List.length_drop, List.length_take]; rfl)) ?_
      with_reducible refine (reals_wide_over.calls k t204 t205 t207 t208 t209 t210 _ A26.out).mono ?_
      rintro e w53 ⟨rfl, hb⟩
      refine ⟨_, rfl, ?_⟩
      have n0_ := Aside0.mk (Kd.R_below (by (with_reducible repeat (first | apply Kd.R_alloc | apply Kd.R_drewN | apply Kd.R_drew)); exact HO197.out) hb)
      have n1_ := Aside0.mk (bb BK192 hb)
      have n2_ := Aside0.mk (bb BK193 hb)
      have n3_ := Aside0.mk (bb BK194 hb)
      have n4_ := Aside0.mk (bb BK202 hb)
      have n5_ := Aside0.mk (bb BK211 hb)
      have n6_ := Aside0.mk (below_step (bw HB) hb)
      clear HO197
      clear BK192
      clear BK193
      clear BK194
      clear BK202
      clear BK211
      clear HB
      have HO197 := n0_
      have BK192 := n1_
      have BK193 := n2_
      have BK194 := n3_
      have BK202 := n4_
      have BK211 := n5_
      have HB := n6_
      clear n0_ n1_ n2_ n3_ n4_ n5_ n6_
      (try clear hb)
      (try clear hb2)
      (try clear hk)
      (try clear hi)
      refine hK.out _ _ ⟨(blk_cell BK202.out 0).trans rfl, (blk_cell BK202.out 1).trans rfl, (blk_cell BK193.out 0).trans rfl, (blk_cell BK193.out 1).trans rfl⟩ (fun hHeld => ?_)
      clear hK K
      refine norm_ (a' := ?_) ?_ ?_
      rotate_left
      ·show Act.put _ (some 49) _ = _
       simp only [Act.put, List.setIfInBounds_toArray, List.set_cons_zero, List.set_cons_succ, i64_w, i32_w]
       rfl
      refine pure_ (i := 8) (N := some 41) (v := ?_) (a' := ?_) #[true, true, true, true, true, true, true, true, true, false, false, true, false, false] rfl rfl (any_of HT_.out (by kernel_rfl)) (fun _ _ _ h => h) (Or.inl ⟨by rfl, ?_⟩) ?_ ?_
      rotate_left
      ·intro w'
       go_simp
       with_reducible rfl
      rotate_left
      ·simp only [Act.put, List.setIfInBounds_toArray, List.set_cons_zero, List.set_cons_succ, i64_w, i32_w]
       rfl
      refine pure_ (i := 9) (N := some 50) (v := ?_) (a' := ?_) #[true, true, true, true, true, true, true, true, true, true, false, true, false, false] rfl rfl (any_of HT_.out (by kernel_rfl)) (fun _ _ _ h => h) (Or.inl ⟨by rfl, ?_⟩) ?_ ?_
      rotate_left
      ·intro w'
       go_simp
       with_reducible rfl
      rotate_left
      ·simp only [Act.put, List.setIfInBounds_toArray, List.set_cons_zero, List.set_cons_succ, i64_w, i32_w]
       rfl
      refine pure_ (i := 10) (N := some 51) (v := ?_) (a' := ?_) #[true, true, true, true, true, true, true, true, true, true, true, true, false, false] rfl rfl (any_of HT_.out (by kernel_rfl)) (fun _ _ _ h => h) (Or.inl ⟨by rfl, ?_⟩) ?_ ?_
      rotate_left
      ·intro w'
       go_simp
       with_reducible rfl
      rotate_left
      ·simp only [Act.put, List.setIfInBounds_toArray, List.set_cons_zero, List.set_cons_succ, i64_w, i32_w]
       rfl
      exact norm_ (by simp only [putAll, Act.put, List.setIfInBounds_toArray, List.set_cons_zero, List.set_cons_succ]) (hCont (gb211) _ ⟨hHeld, (by (with_reducible repeat (first | apply Kd.R_alloc | apply Kd.R_drewN | apply Kd.R_drew)); exact Kd.R_mono HO197.out (fun _ hk => ⟨hk.1.1.2, ⟨hk.1.2, hk.2⟩⟩)), (bk BK192), (bk BK193), (bk BK194), (bk BK202), (bk BK211), GW211.out, GE211.out, NB192_211.out, NB211_192.out, NB193_211.out, NB211_193.out, NB194_211.out, NB211_194.out, NB202_211.out, NB211_202.out, (bw HB)⟩)
    ·skip
     refine box_step ?hg (N := 14) ?hd (cs := #[.int .u64 0, .int .u64 0]) (t := 55) ?hr ?_; (case hd => rfl); (case hg => rfl); (case hr => first | (go_simp; done) | (go_simp; rfl))
     intro gb211 hg w50 hbox hb
     have n0_ := Aside0.mk (Kd.R_below (by (with_reducible repeat (first | apply Kd.R_alloc | apply Kd.R_drewN | apply Kd.R_drew)); exact HO197.out) hb)
     have n1_ := Aside0.mk (bb BK192 hb)
     have n2_ := Aside0.mk (bb BK193 hb)
     have n3_ := Aside0.mk (bb BK194 hb)
     have n4_ := Aside0.mk (bb BK202 hb)
     have n5_ := Aside0.mk (below_step (bw HB) hb)
     have n6_ := Aside0.mk (hbox)
     have n7_ := Aside0.mk (bs HB hg : w.heap.size ≤ gb211)
     have n8_ := Aside0.mk (bs HB hg : w.heap.size ≤ gb211)
     have n9_ := Aside0.mk (nl BK192 hg)
     have n10_ := Aside0.mk (ng BK192 hg)
     have n11_ := Aside0.mk (nl BK193 hg)
     have n12_ := Aside0.mk (ng BK193 hg)
     have n13_ := Aside0.mk (nl BK194 hg)
     have n14_ := Aside0.mk (ng BK194 hg)
     have n15_ := Aside0.mk (nl BK202 hg)
     have n16_ := Aside0.mk (ng BK202 hg)
     clear HO197
     clear BK192
     clear BK193
     clear BK194
     clear BK202
     clear HB
     have HO197 := n0_
     have BK192 := n1_
     have BK193 := n2_
     have BK194 := n3_
     have BK202 := n4_
     have HB := n5_
     have BK211 := n6_
     have GW211 := n7_
     have GE211 := n8_
     have NB192_211 := n9_
     have NB211_192 := n10_
     have NB193_211 := n11_
     have NB211_193 := n12_
     have NB194_211 := n13_
     have NB211_194 := n14_
     have NB202_211 := n15_
     have NB211_202 := n16_
     clear n0_ n1_ n2_ n3_ n4_ n5_ n6_ n7_ n8_ n9_ n10_ n11_ n12_ n13_ n14_ n15_ n16_
     clear hb hbox hg
     refine hK.out _ _ ⟨(blk_cell BK202.out 0).trans rfl, (blk_cell BK202.out 1).trans rfl, (blk_cell BK193.out 0).trans rfl, (blk_cell BK193.out 1).trans rfl⟩ (fun hHeld => ?_)
     clear hK K
     refine norm_ (a' := ?_) ?_ ?_
     rotate_left
     ·show Act.put _ (some 14) _ = _
      simp only [Act.put, List.setIfInBounds_toArray, List.set_cons_zero, List.set_cons_succ, i64_w, i32_w]
      rfl
     refine one_ (i := 2) (N := some 44) #[true, true, true, true, true, false, false, false, false, false, false, true, false, false] rfl rfl (one_of HT_.out (by kernel_rfl)) (by decide) (fun K hK => ?_)
     refine goes_ Try.func60 (by kernel_rfl) rfl #[.agg #[.int .u64 t200, .int .u64 t201], .int .i64 (wrap64 (38 - t203))] (by rfl) rfl rfl (by (try simp only [List.map_toArray, List.map_cons, List.map_nil]); first | done | rfl | (simp only [List.length_drop, List.length_take]; rfl)) ?_
     with_reducible refine (reals_wide_scaled.calls k t200 t201 (wrap64 (38 - t203)) t204 t205 _ A24.out).mono ?_
     rintro e w51 ⟨rfl, hb⟩
     refine ⟨_, rfl, ?_⟩
     have n0_ := Aside0.mk (Kd.R_below (by (with_reducible repeat (first | apply Kd.R_alloc | apply Kd.R_drewN | apply Kd.R_drew)); exact HO197.out) hb)
     have n1_ := Aside0.mk (bb BK192 hb)
     have n2_ := Aside0.mk (bb BK193 hb)
     have n3_ := Aside0.mk (bb BK194 hb)
     have n4_ := Aside0.mk (bb BK202 hb)
     have n5_ := Aside0.mk (bb BK211 hb)
     have n6_ := Aside0.mk (below_step (bw HB) hb)
     clear HO197
     clear BK192
     clear BK193
     clear BK194
     clear BK202
     clear BK211
     clear HB
     have HO197 := n0_
     have BK192 := n1_
     have BK193 := n2_
     have BK194 := n3_
     have BK202 := n4_
     have BK211 := n5_
     have HB := n6_
     clear n0_ n1_ n2_ n3_ n4_ n5_ n6_
     (try clear hb)
     (try clear hb2)
     (try clear hk)
     (try clear hi)
     refine hK.out _ _ ⟨(blk_cell BK202.out 0).trans rfl, (blk_cell BK202.out 1).trans rfl, (blk_cell BK193.out 0).trans rfl, (blk_cell BK193.out 1).trans rfl⟩ (fun hHeld => ?_)
     clear hK K
     refine norm_ (a' := ?_) ?_ ?_
     rotate_left
     ·show Act.put _ (some 44) _ = _
      simp only [Act.put, List.setIfInBounds_toArray, List.set_cons_zero, List.set_cons_succ, i64_w, i32_w]
      rfl
     refine one_ (i := 5) (N := some 47) #[true, true, true, true, true, true, false, false, false, false, false, true, false, false] rfl rfl (one_of HT_.out (by kernel_rfl)) (by decide) (fun K hK => ?_)
     refine goes_ Try.func46 (by kernel_rfl) rfl #[.int .i64 a3_0] (by rfl) rfl rfl (by (try simp only [List.map_toArray, List.map_cons, List.map_nil]); first | done | rfl | (simp only [List.length_drop, List.length_take]; rfl)) ?_
     with_reducible refine (reals_magnitude.calls a3_0 t206 t207 _ A25.out).mono ?_
     rintro e w52 ⟨rfl, hb⟩
     refine ⟨_, rfl, ?_⟩
     have n0_ := Aside0.mk (Kd.R_below (by (with_reducible repeat (first | apply Kd.R_alloc | apply Kd.R_drewN | apply Kd.R_drew)); exact HO197.out) hb)
     have n1_ := Aside0.mk (bb BK192 hb)
     have n2_ := Aside0.mk (bb BK193 hb)
     have n3_ := Aside0.mk (bb BK194 hb)
     have n4_ := Aside0.mk (bb BK202 hb)
     have n5_ := Aside0.mk (bb BK211 hb)
     have n6_ := Aside0.mk (below_step (bw HB) hb)
     clear HO197
     clear BK192
     clear BK193
     clear BK194
     clear BK202
     clear BK211
     clear HB
     have HO197 := n0_
     have BK192 := n1_
     have BK193 := n2_
     have BK194 := n3_
     have BK202 := n4_
     have BK211 := n5_
     have HB := n6_
     clear n0_ n1_ n2_ n3_ n4_ n5_ n6_
     (try clear hb)
     (try clear hb2)
     (try clear hk)
     (try clear hi)
     refine hK.out _ _ ⟨(blk_cell BK202.out 0).trans rfl, (blk_cell BK202.out 1).trans rfl, (blk_cell BK193.out 0).trans rfl, (blk_cell BK193.out 1).trans rfl⟩ (fun hHeld => ?_)
     clear hK K
     refine norm_ (a' := ?_) ?_ ?_
     rotate_left
     ·show Act.put _ (some 47) _ = _
      simp only [Act.put, List.setIfInBounds_toArray, List.set_cons_zero, List.set_cons_succ, i64_w, i32_w]
      rfl
     refine pure_ (i := 6) (N := some 48) (v := ?_) (a' := ?_) #[true, true, true, true, true, true, true, false, false, false, false, true, false, false] rfl rfl (any_of HT_.out (by kernel_rfl)) (fun _ _ _ h => h) (Or.inl ⟨by rfl, ?_⟩) ?_ ?_
     rotate_left
     ·intro w'
      go_simp
      with_reducible rfl
     rotate_left
     ·simp only [Act.put, List.setIfInBounds_toArray, List.set_cons_zero, List.set_cons_succ, i64_w, i32_w]
      rfl
     refine one_ (i := 7) (N := some 49) #[true, true, true, true, true, true, true, true, false, false, false, true, false, false] rfl rfl (one_of HT_.out (by kernel_rfl)) (by decide) (fun K hK => ?_)
     refine goes_ Try.func61 (by kernel_rfl) rfl #[.agg #[.int .u64 t204, .int .u64 t205], .int .u64 t207] (by rfl) rfl rfl (by (try simp only [List.map_toArray, List.map_cons, List.map_nil]); first | done | rfl | (simp only [List.length_drop, List.length_take]; rfl)) ?_
     with_reducible refine (reals_wide_over.calls k t204 t205 t207 t208 t209 t210 _ A26.out).mono ?_
     rintro e w53 ⟨rfl, hb⟩
     refine ⟨_, rfl, ?_⟩
     have n0_ := Aside0.mk (Kd.R_below (by (with_reducible repeat (first | apply Kd.R_alloc | apply Kd.R_drewN | apply Kd.R_drew)); exact HO197.out) hb)
     have n1_ := Aside0.mk (bb BK192 hb)
     have n2_ := Aside0.mk (bb BK193 hb)
     have n3_ := Aside0.mk (bb BK194 hb)
     have n4_ := Aside0.mk (bb BK202 hb)
     have n5_ := Aside0.mk (bb BK211 hb)
     have n6_ := Aside0.mk (below_step (bw HB) hb)
     clear HO197
     clear BK192
     clear BK193
     clear BK194
     clear BK202
     clear BK211
     clear HB
     have HO197 := n0_
     have BK192 := n1_
     have BK193 := n2_
     have BK194 := n3_
     have BK202 := n4_
     have BK211 := n5_
     have HB := n6_
     clear n0_ n1_ n2_ n3_ n4_ n5_ n6_
     (try clear hb)
     (try clear hb2)
     (try clear hk)
     (try clear hi)
     refine hK.out _ _ ⟨(blk_cell BK202.out 0).trans rfl, (blk_cell BK202.out 1).trans rfl, (blk_cell BK193.out 0).trans rfl, (blk_cell BK193.out 1).trans rfl⟩ (fun hHeld => ?_)
     clear hK K
     refine norm_ (a' := ?_) ?_ ?_
     rotate_left
     ·show Act.put _ (some 49) _ = _
      simp only [Act.put, List.setIfInBounds_toArray, List.set_cons_zero, List.set_cons_succ, i64_w, i32_w]
      rfl
     refine pure_ (i := 8) (N := some 41) (v := ?_) (a' := ?_) #[true, true, true, true, true, true, true, true, true, false, false, true, false, false] rfl rfl (any_of HT_.out (by kernel_rfl)) (fun _ _ _ h => h) (Or.inl ⟨by rfl, ?_⟩) ?_ ?_
     rotate_left
     ·intro w'
      go_simp
      with_reducible rfl
     rotate_left
     ·simp only [Act.put, List.setIfInBounds_toArray, List.set_cons_zero, List.set_cons_succ, i64_w, i32_w]
      rfl
     refine pure_ (i := 9) (N := some 50) (v := ?_) (a' := ?_) #[true, true, true, true, true, true, true, true, true, true, false, true, false, false] rfl rfl (any_of HT_.out (by kernel_rfl)) (fun _ _ _ h => h) (Or.inl ⟨by rfl, ?_⟩) ?_ ?_
     rotate_left
     ·intro w'
      go_simp
      with_reducible rfl
     rotate_left
     ·simp only [Act.put, List.setIfInBounds_toArray, List.set_cons_zero, List.set_cons_succ, i64_w, i32_w]
      rfl
     refine pure_ (i := 10) (N := some 51) (v := ?_) (a' := ?_) #[true, true, true, true, true, true, true, true, true, true, true, true, false, false] rfl rfl (any_of HT_.out (by kernel_rfl)) (fun _ _ _ h => h) (Or.inl ⟨by rfl, ?_⟩) ?_ ?_
     rotate_left
     ·intro w'
      go_simp
      with_reducible rfl
     rotate_left
     ·simp only [Act.put, List.setIfInBounds_toArray, List.set_cons_zero, List.set_cons_succ, i64_w, i32_w]
      rfl
     exact norm_ (by simp only [putAll, Act.put, List.setIfInBounds_toArray, List.set_cons_zero, List.set_cons_succ]) (hCont (gb211) _ ⟨hHeld, (by (with_reducible repeat (first | apply Kd.R_alloc | apply Kd.R_drewN | apply Kd.R_drew)); exact Kd.R_mono HO197.out (fun _ hk => ⟨hk.1.1.2, ⟨hk.1.2, hk.2⟩⟩)), (bk BK192), (bk BK193), (bk BK194), (bk BK202), (bk BK211), GW211.out, GE211.out, NB192_211.out, NB211_192.out, NB193_211.out, NB211_193.out, NB194_211.out, NB211_194.out, NB202_211.out, NB211_202.out, (bw HB)⟩)
   rintro gb211 w54 ⟨hS_, h0_, h1_, h2_, h3_, h4_, h5_, h6_, h7_, h8_, h9_, h10_, h11_, h12_, h13_, h14_, h15_, h16_⟩
   have n0_ : Aside0 (Kd.R k29 29 w54 w.heap.size (fun k_ => k_ ≠ gb192 ∧ k_ ≠ gb193 ∧ k_ ≠ gb194) (.slice Ao38 y195.length co38) y195) := ⟨h0_⟩
   have n1_ : Aside0 (w54.heap[gb192]? = some (.cells #[.int .i64 a2_0, .int .i64 a2_1] 29 (0, 0))) := ⟨h1_⟩
   have n2_ : Aside0 (w54.heap[gb193]? = some (.cells #[.int .i64 a3_0, .int .i64 a3_1] 29 (0, 0))) := ⟨h2_⟩
   have n3_ : Aside0 (w54.heap[gb194]? = some (.cells #[.int .i64 0, .int .i64 0] 29 (0, 0))) := ⟨h3_⟩
   have n4_ : Aside0 (w54.heap[gb202]? = some (.cells #[.int .u64 t200, .int .u64 t201] 55 (0, 0))) := ⟨h4_⟩
   have n5_ : Aside0 (w54.heap[gb211]? = some (.cells #[.int .u64 0, .int .u64 0] 55 (0, 0))) := ⟨h5_⟩
   have n6_ : Aside0 (w.heap.size ≤ gb211) := ⟨h6_⟩
   have n7_ : Aside0 (w.heap.size ≤ gb211) := ⟨h7_⟩
   have n8_ : Aside0 (gb192 ≠ gb211) := ⟨h8_⟩
   have n9_ : Aside0 (gb211 ≠ gb192) := ⟨h9_⟩
   have n10_ : Aside0 (gb193 ≠ gb211) := ⟨h10_⟩
   have n11_ : Aside0 (gb211 ≠ gb193) := ⟨h11_⟩
   have n12_ : Aside0 (gb194 ≠ gb211) := ⟨h12_⟩
   have n13_ : Aside0 (gb211 ≠ gb194) := ⟨h13_⟩
   have n14_ : Aside0 (gb202 ≠ gb211) := ⟨h14_⟩
   have n15_ : Aside0 (gb211 ≠ gb202) := ⟨h15_⟩
   have n16_ : Aside0 (Below w.heap.size w w54) := ⟨h16_⟩
   clear HO197
   clear BK192
   clear BK193
   clear BK194
   clear BK202
   clear HB
   clear h0_ h1_ h2_ h3_ h4_ h5_ h6_ h7_ h8_ h9_ h10_ h11_ h12_ h13_ h14_ h15_ h16_
   have HO197 := n0_
   have BK192 := n1_
   have BK193 := n2_
   have BK194 := n3_
   have BK202 := n4_
   have BK211 := n5_
   have GW211 := n6_
   have GE211 := n7_
   have NB192_211 := n8_
   have NB211_192 := n9_
   have NB193_211 := n10_
   have NB211_193 := n11_
   have NB194_211 := n12_
   have NB211_194 := n13_
   have NB202_211 := n14_
   have NB211_202 := n15_
   have HB := n16_
   clear n0_ n1_ n2_ n3_ n4_ n5_ n6_ n7_ n8_ n9_ n10_ n11_ n12_ n13_ n14_ n15_ n16_
   have hHeld : w54.cell? ⟨gb202, 0, none⟩ = some (.int .u64 t200) ∧ w54.cell? ⟨gb202, 1, none⟩ = some (.int .u64 t201) ∧ w54.cell? ⟨gb193, 0, none⟩ = some (.int .i64 a3_0) ∧ w54.cell? ⟨gb193, 1, none⟩ = some (.int .i64 a3_1) := hS_
   refine norm_ (a' := ?_) ?_ ?_
   rotate_left
   ·simp only [putAll, Act.put, List.setIfInBounds_toArray, List.set_cons_zero, List.set_cons_succ]
    rfl
   refine one_ (i := 12) (N := none) #[true, true, true, true, true, true, true, true, true, true, true, true, true, false] rfl rfl (one_of HT_.out (by kernel_rfl)) (by decide) (fun K hK => ?_)
   have hs55 : w54.cell? ⟨gb211, 0, none⟩ = some (.int .u64 0) := (blk_cell BK211.out 0).trans rfl
   have hfs55 := blk_frozen BK211.out 0
   have hns55_0 := NB192_211.out
   have hns55_1 := NB193_211.out
   have hns55_2 := NB194_211.out
   have hns55_3 := NB202_211.out
   have hms55_0 := NB211_192.out
   have hms55_1 := NB211_193.out
   have hms55_2 := NB211_194.out
   have hms55_3 := NB211_202.out
   have hs56 : w54.cell? ⟨gb211, 1, none⟩ = some (.int .u64 0) := (blk_cell BK211.out 1).trans rfl
   have hfs56 := blk_frozen BK211.out 1
   have hns56_0 := NB192_211.out
   have hns56_1 := NB193_211.out
   have hns56_2 := NB194_211.out
   have hns56_3 := NB202_211.out
   have hms56_0 := NB211_192.out
   have hms56_1 := NB211_193.out
   have hms56_2 := NB211_194.out
   have hms56_3 := NB211_202.out
   refine skip_ (w1 := ?_) (by rfl) rfl ?_ ?_
   rotate_left
   ·go_simp
    rfl
   refine hK.out _ _ ⟨((cell_far (p := ⟨gb211, _, none⟩) NB202_211.out _).trans (((cell_far (p := ⟨gb211, _, none⟩) NB202_211.out _).trans (hHeld.1)))), ((cell_far (p := ⟨gb211, _, none⟩) NB202_211.out _).trans (((cell_far (p := ⟨gb211, _, none⟩) NB202_211.out _).trans (hHeld.2.1)))), ((cell_far (p := ⟨gb211, _, none⟩) NB193_211.out _).trans (((cell_far (p := ⟨gb211, _, none⟩) NB193_211.out _).trans (hHeld.2.2.1)))), ((cell_far (p := ⟨gb211, _, none⟩) NB193_211.out _).trans (((cell_far (p := ⟨gb211, _, none⟩) NB193_211.out _).trans (hHeld.2.2.2))))⟩ (fun hHeld => ?_)
   clear hK K
   refine pure_ (i := 13) (N := some 15) (v := ?_) (a' := ?_) #[true, true, true, true, true, true, true, true, true, true, true, true, true, true] rfl rfl (any_of HT_.out (by kernel_rfl)) (fun _ _ _ h => h) (Or.inl ⟨by rfl, ?_⟩) ?_ ?_
   rotate_left
   ·intro w'
    go_simp
    with_reducible rfl
   rotate_left
   ·simp only [Act.put, List.setIfInBounds_toArray, List.set_cons_zero, List.set_cons_succ, i64_w, i32_w]
    rfl
   refine done_ (done_of HT_.out (by kernel_rfl)) ?_
   have hnb57 := NB192_211.out
   have hnc57 := NB211_192.out
   have hcz58_0 := bc BK192 0 rfl
   have hcz58_1 := bc BK192 1 rfl
   have hfz58_0 := blk_frozen BK192.out 0
   have hfz58_1 := blk_frozen BK192.out 1
   have hnb59 := NB193_211.out
   have hnc59 := NB211_193.out
   have hcz60_0 := bc BK193 0 rfl
   have hcz60_1 := bc BK193 1 rfl
   have hfz60_0 := blk_frozen BK193.out 0
   have hfz60_1 := blk_frozen BK193.out 1
   have hnb61 := NB211_194.out
   have hnc61 := NB194_211.out
   have hnb62 := NB211_202.out
   have hnc62 := NB202_211.out
   have hcz63_0 := bc BK211 0 rfl
   have hcz63_1 := bc BK211 1 rfl
   have hfz63_0 := blk_frozen BK211.out 0
   have hfz63_1 := blk_frozen BK211.out 1
   try go_wp2_with (first | ((with_reducible refine gate_callee (f := 52) rfl ?_); refine goesL_ (some 72) rfl rfl Try.func52 (by kernel_rfl) rfl #[.agg #[.bool ((decide (a2_0 < 0)) != (decide (a3_0 < 0))), .int .u64 t208, .int .u64 t209, .int .i64 (wrap64 ((wrap64 (a2_1 - (wrap64 (38 - t203)))) - a3_1)), .bool (t210 != 0)], .int .i64 t198, .int .i64 a1] rfl (by (try simp only [List.map_toArray, List.map_cons, List.map_nil]); first | done | rfl | (simp only [List.length_drop, List.length_take]; rfl)) ?_; (with_reducible refine (reals_exact_round.calls k ((decide (a2_0 < 0)) != (decide (a3_0 < 0))) t208 t209 (wrap64 ((wrap64 (a2_1 - (wrap64 (38 - t203)))) - a3_1)) (t210 != 0) t198 a1 t212 t213 t214 _ A27.out).mono ?_); rintro e w64 ⟨rfl, hb⟩; refine ⟨_, rfl, ?_⟩; have n0_ := Aside0.mk (Kd.R_below (by (with_reducible repeat (first | apply Kd.R_alloc | apply Kd.R_drewN | apply Kd.R_drew)); exact (Kd.R_mono (Kd.R_far (p := ⟨gb211, 1, none⟩) (Kd.R_far (p := ⟨gb211, 0, none⟩) (Kd.R_types HO197.out BK211.out (by decide)) (fun _ hk => hk.2) (.int .u64 t208)) (fun _ hk => hk.2) (.int .u64 t209)) (fun _ h_ => h_.1))) hb); have n1_ := Aside0.mk (blk_below (g := gb192) (o := .cells #[.int .i64 a2_0, .int .i64 a2_1] 29 (0, 0)) (by (with_reducible repeat (first | refine blk_drewN ?_ _ | refine blk_drew ?_ | refine blk_alloc ?_ _)); refine blk_far ?_ NB192_211.out _; (with_reducible repeat (first | refine blk_drewN ?_ _ | refine blk_drew ?_ | refine blk_alloc ?_ _)); refine blk_far ?_ NB192_211.out _; (with_reducible repeat (first | refine blk_drewN ?_ _ | refine blk_drew ?_ | refine blk_alloc ?_ _)); exact BK192.out) hb); have n2_ := Aside0.mk (blk_below (g := gb193) (o := .cells #[.int .i64 a3_0, .int .i64 a3_1] 29 (0, 0)) (by (with_reducible repeat (first | refine blk_drewN ?_ _ | refine blk_drew ?_ | refine blk_alloc ?_ _)); refine blk_far ?_ NB193_211.out _; (with_reducible repeat (first | refine blk_drewN ?_ _ | refine blk_drew ?_ | refine blk_alloc ?_ _)); refine blk_far ?_ NB193_211.out _; (with_reducible repeat (first | refine blk_drewN ?_ _ | refine blk_drew ?_ | refine blk_alloc ?_ _)); exact BK193.out) hb); have n3_ := Aside0.mk (blk_below (g := gb194) (o := .cells #[.int .i64 0, .int .i64 0] 29 (0, 0)) (by (with_reducible repeat (first | refine blk_drewN ?_ _ | refine blk_drew ?_ | refine blk_alloc ?_ _)); refine blk_far ?_ NB194_211.out _; (with_reducible repeat (first | refine blk_drewN ?_ _ | refine blk_drew ?_ | refine blk_alloc ?_ _)); refine blk_far ?_ NB194_211.out _; (with_reducible repeat (first | refine blk_drewN ?_ _ | refine blk_drew ?_ | refine blk_alloc ?_ _)); exact BK194.out) hb); have n4_ := Aside0.mk (blk_below (g := gb202) (o := .cells #[.int .u64 t200, .int .u64 t201] 55 (0, 0)) (by (with_reducible repeat (first | refine blk_drewN ?_ _ | refine blk_drew ?_ | refine blk_alloc ?_ _)); refine blk_far ?_ NB202_211.out _; (with_reducible repeat (first | refine blk_drewN ?_ _ | refine blk_drew ?_ | refine blk_alloc ?_ _)); refine blk_far ?_ NB202_211.out _; (with_reducible repeat (first | refine blk_drewN ?_ _ | refine blk_drew ?_ | refine blk_alloc ?_ _)); exact BK202.out) hb); have n5_ := Aside0.mk (blk_below (g := gb211) (o := .cells #[.int .u64 t208, .int .u64 t209] 55 (0, 0)) (by (with_reducible repeat (first | refine blk_drewN ?_ _ | refine blk_drew ?_ | refine blk_alloc ?_ _)); refine blk_put (cs := #[.int .u64 t208, .int .u64 0]) ?_ 1 _ rfl; (with_reducible repeat (first | refine blk_drewN ?_ _ | refine blk_drew ?_ | refine blk_alloc ?_ _)); refine blk_put (cs := #[.int .u64 0, .int .u64 0]) ?_ 0 _ rfl; (with_reducible repeat (first | refine blk_drewN ?_ _ | refine blk_drew ?_ | refine blk_alloc ?_ _)); exact BK211.out) hb); have n6_ := Aside0.mk (below_step (bw HB) hb); clear HO197; clear BK192; clear BK193; clear BK194; clear BK202; clear BK211; clear HB; have HO197 := n0_; have BK192 := n1_; have BK193 := n2_; have BK194 := n3_; have BK202 := n4_; have BK211 := n5_; have HB := n6_; clear n0_ n1_ n2_ n3_ n4_ n5_ n6_; (try clear hb); (try clear hb2); (try clear hk); (try clear hi); have hcz65_0 := bc BK194 0 rfl; have hcz65_1 := bc BK194 1 rfl; have hfz65_0 := blk_frozen BK194.out 0; have hfz65_1 := blk_frozen BK194.out 1))
   refine bodyPost_ret (results_ct rfl _ _ gb194 29 #[.int .i64 t212, .int .i64 t213] (0, 0) _ rfl (by (with_reducible repeat (first | refine blk_drewN ?_ _ | refine blk_drew ?_ | refine blk_alloc ?_ _)); refine blk_put (cs := #[.int .i64 t212, .int .i64 0]) ?_ 1 _ rfl; (with_reducible repeat (first | refine blk_drewN ?_ _ | refine blk_drew ?_ | refine blk_alloc ?_ _)); refine blk_put (cs := #[.int .i64 0, .int .i64 0]) ?_ 0 _ rfl; (with_reducible repeat (first | refine blk_drewN ?_ _ | refine blk_drew ?_ | refine blk_alloc ?_ _)); exact BK194.out) Try.underlying29 rfl (by kernel_rfl)) rfl ?_
   exact ⟨by first | rfl | (simp [errW_none, errW_some] <;> rfl) | (simp [*, errW_none, errW_some] <;> rfl), bw HB⟩
 ·rw [if_neg c6] at H
  have c6b0 : (t199 == 0) = false := beq_eq_false_iff_ne.mpr c6
  have c6b1 : (t199 != 0) = true := bne_iff_ne.mpr c6
  simp only [Option.some.injEq, Prod.mk.injEq] at H
  obtain ⟨rfl, rfl, rfl⟩ := H
  go_enter Try.func27, Try.ntmps27
  go_wp2_with (first | ((with_reducible refine gate_dst (N := 6) rfl ?_); refine box_event ?hg (N := 6) ?hd (cs := #[.int .i64 a2_0, .int .i64 a2_1]) (t := 29) ?hr ?_; (case hd => rfl); (case hg => rfl); (case hr => first | (go_simp; done) | (go_simp; rfl)); intro gb192 hg w66 hbox hb; have n0_ := Aside0.mk (below_step (bw HB) hb); have n1_ := Aside0.mk (hbox); have n2_ := Aside0.mk (bs HB hg : w.heap.size ≤ gb192); have n3_ := Aside0.mk (bs HB hg : w.heap.size ≤ gb192); clear HB; have HB := n0_; have BK192 := n1_; have GW192 := n2_; have GE192 := n3_; clear n0_ n1_ n2_ n3_; clear hb hbox hg) | ((with_reducible refine gate_dst (N := 7) rfl ?_); refine box_event ?hg (N := 7) ?hd (cs := #[.int .i64 a3_0, .int .i64 a3_1]) (t := 29) ?hr ?_; (case hd => rfl); (case hg => rfl); (case hr => first | (go_simp; done) | (go_simp; rfl)); intro gb193 hg w67 hbox hb; have n0_ := Aside0.mk (bb BK192 hb); have n1_ := Aside0.mk (below_step (bw HB) hb); have n2_ := Aside0.mk (hbox); have n3_ := Aside0.mk (bs HB hg : w.heap.size ≤ gb193); have n4_ := Aside0.mk (bs HB hg : w.heap.size ≤ gb193); have n5_ := Aside0.mk (nl BK192 hg); have n6_ := Aside0.mk (ng BK192 hg); clear BK192; clear HB; have BK192 := n0_; have HB := n1_; have BK193 := n2_; have GW193 := n3_; have GE193 := n4_; have NB192_193 := n5_; have NB193_192 := n6_; clear n0_ n1_ n2_ n3_ n4_ n5_ n6_; clear hb hbox hg) | ((with_reducible refine gate_dst (N := 8) rfl ?_); refine box_event ?hg (N := 8) ?hd (cs := #[.int .i64 0, .int .i64 0]) (t := 29) ?hr ?_; (case hd => rfl); (case hg => rfl); (case hr => first | (go_simp; done) | (go_simp; rfl)); intro gb194 hg w68 hbox hb; have n0_ := Aside0.mk (bb BK192 hb); have n1_ := Aside0.mk (bb BK193 hb); have n2_ := Aside0.mk (below_step (bw HB) hb); have n3_ := Aside0.mk (hbox); have n4_ := Aside0.mk (bs HB hg : w.heap.size ≤ gb194); have n5_ := Aside0.mk (bs HB hg : w.heap.size ≤ gb194); have n6_ := Aside0.mk (nl BK192 hg); have n7_ := Aside0.mk (ng BK192 hg); have n8_ := Aside0.mk (nl BK193 hg); have n9_ := Aside0.mk (ng BK193 hg); clear BK192; clear BK193; clear HB; have BK192 := n0_; have BK193 := n1_; have HB := n2_; have BK194 := n3_; have GW194 := n4_; have GE194 := n5_; have NB192_194 := n6_; have NB194_192 := n7_; have NB193_194 := n8_; have NB194_193 := n9_; clear n0_ n1_ n2_ n3_ n4_ n5_ n6_ n7_ n8_ n9_; clear hb hbox hg; have hnb69 := NB192_193.out; have hnc69 := NB193_192.out; have hnb70 := NB192_194.out; have hnc70 := NB194_192.out; have hcz71_0 := bc BK192 0 rfl; have hcz71_1 := bc BK192 1 rfl; have hfz71_0 := blk_frozen BK192.out 0; have hfz71_1 := blk_frozen BK192.out 1; have hnb72 := NB193_194.out; have hnc72 := NB194_193.out; have hcz73_0 := bc BK193 0 rfl; have hcz73_1 := bc BK193 1 rfl; have hfz73_0 := blk_frozen BK193.out 0; have hfz73_1 := blk_frozen BK193.out 1) | ((with_reducible refine gate_dst (N := 21) rfl ?_); refine Kd.R_lit k29 _ 29 ?hg (N := 21) ?hd (xs := ([(⟨a2_0, a2_1⟩ : S29), (⟨a3_0, a3_1⟩ : S29)] : List (S29))) (inner := [.int .i64 a2_0, .int .i64 a2_1, .int .i64 a3_0, .int .i64 a3_1]) (ok := fun _ => True) (okp := fun _ => True) ?hr ?hp (fun _ hk => hk) trivial (Below.refl _ _) (Nat.le_refl _) (by simp) ?_; (case hd => rfl); (case hg => rfl); (case hr => first | (go_simp; done) | (go_simp; rfl)); (case hp => exact (Reps.c2 (show Kd.M k29 _ _ _ (⟨a2_0, a2_1⟩ : S29) [.int .i64 a2_0, .int .i64 a2_1] from (k29_mkM _ _ _ (⟨a2_0, a2_1⟩ : S29) )) (Reps.c2 (show Kd.M k29 _ _ _ (⟨a3_0, a3_1⟩ : S29) [.int .i64 a3_0, .int .i64 a3_1] from (k29_mkM _ _ _ (⟨a3_0, a3_1⟩ : S29) )) (Reps.none _ _)))); intro v196 w74 ho75 hb hg_ hnew_; clear hg_ hnew_; (first | rw [← Ny195.out] at ho75 | (simp only [Int.reduceToNat] at ho75; rw [← Ny195.out] at ho75)); have n0_ := Aside0.mk (Kd.R_lower (Kd.R_newB (Kd.R_newB (Kd.R_newB ho75 (g := gb192) (o := .cells #[.int .i64 a2_0, .int .i64 a2_1] 29 (0, 0)) (bk BK192)) (g := gb193) (o := .cells #[.int .i64 a3_0, .int .i64 a3_1] 29 (0, 0)) (bk BK193)) (g := gb194) (o := .cells #[.int .i64 0, .int .i64 0] 29 (0, 0)) (bk BK194)) (below_size (bw HB))); have n1_ := Aside0.mk (bb BK192 hb); have n2_ := Aside0.mk (bb BK193 hb); have n3_ := Aside0.mk (bb BK194 hb); have n4_ := Aside0.mk (below_step (bw HB) hb); clear BK192; clear BK193; clear BK194; clear HB; have HO197 := n0_; have BK192 := n1_; have BK193 := n2_; have BK194 := n3_; have HB := n4_; clear n0_ n1_ n2_ n3_ n4_; clear hb ho75; obtain ⟨Ao76, co76, eo76⟩ := Kd.R_slice HO197.out; subst eo76) | ((with_reducible refine gate_callee (f := 50) rfl ?_); refine goesL_ (some 22) rfl rfl Try.func50 (by kernel_rfl) rfl #[.int .i64 a0, .int .i64 a1, .slice Ao76 y195.length co76] rfl (by (try simp only [List.map_toArray, List.map_cons, List.map_nil]); first | done | rfl | (simp only [List.length_drop, List.length_take]; rfl)) ?_; (with_reducible refine (reals_check.calls k a0 a1 _ _ y195 t198 t199 _ ?side1 ?side2 A5.out).mono ?_); (case side1 => repeat (first | exact (Kd.R_reads' HO197.out).2.2 | (with_reducible refine Kd.C_alloc ?_ _) | (with_reducible refine Kd.C_drewN ?_ _) | (with_reducible refine Kd.C_drew ?_))); (case side2 => exact (Kd.R_reads' HO197.out).2.1); rintro e w77 ⟨rfl, hb⟩; refine ⟨_, rfl, ?_⟩; have n0_ := Aside0.mk (Kd.R_below (by (with_reducible repeat (first | apply Kd.R_alloc | apply Kd.R_drewN | apply Kd.R_drew)); exact HO197.out) hb); have n1_ := Aside0.mk (bb BK192 hb); have n2_ := Aside0.mk (bb BK193 hb); have n3_ := Aside0.mk (bb BK194 hb); have n4_ := Aside0.mk (below_step (bw HB) hb); clear HO197; clear BK192; clear BK193; clear BK194; clear HB; have HO197 := n0_; have BK192 := n1_; have BK193 := n2_; have BK194 := n3_; have HB := n4_; clear n0_ n1_ n2_ n3_ n4_; (try clear hb); (try clear hb2); (try clear hk); (try clear hi); have hcz78_0 := bc BK194 0 rfl; have hcz78_1 := bc BK194 1 rfl; have hfz78_0 := blk_frozen BK194.out 0; have hfz78_1 := blk_frozen BK194.out 1))
  refine bodyPost_ret (results_ct rfl _ _ gb194 29 #[.int .i64 0, .int .i64 0] (0, 0) _ rfl (by (with_reducible repeat (first | refine blk_drewN ?_ _ | refine blk_drew ?_ | refine blk_alloc ?_ _)); refine blk_put (cs := #[.int .i64 0, .int .i64 0]) ?_ 1 _ rfl; (with_reducible repeat (first | refine blk_drewN ?_ _ | refine blk_drew ?_ | refine blk_alloc ?_ _)); refine blk_put (cs := #[.int .i64 0, .int .i64 0]) ?_ 0 _ rfl; (with_reducible repeat (first | refine blk_drewN ?_ _ | refine blk_drew ?_ | refine blk_alloc ?_ _)); exact BK194.out) Try.underlying29 rfl (by kernel_rfl)) rfl ?_
  exact ⟨by first | rfl | (simp [errW_none, errW_some] <;> rfl) | (simp [*, errW_none, errW_some] <;> rfl), bw HB⟩
end Go.Proofs.Ytamkjpjibkabaaa.PR
