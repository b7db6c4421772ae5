-- written by a program of this session out of the kit's print (its words and its form)
import Derived.Test.YtamkjpjibkabaaaPRgA
import Derived.Test.YtamkjpjibkabaaaPRgD
import Derived.Test.YtamkjpjibkabaaaPRsq
import Derived.Test.YtamkjpjibkabaaaPRx0
namespace Go.Proofs.Ytamkjpjibkabaaa.PR
open Go.RowKit Go.Proofs.YtamkjpjibkabaaaW.PrintWords Go.Proofs.YtamkjpjibkabaaaW.PrintLast Go.Proofs.YtamkjpjibkabaaaW.PrintMore
attribute [local go_sem] max2_int min2_int max_two min_two max_three min_three max_four min_four   -- for this text's walks alone
set_option linter.unusedVariables false
set_option linter.unusedSimpArgs false

/-! ### reals_Leng: function 36 -/
def reals_Leng.f (k : Nat) (a0 : Int) (a1_0 : Int) (a1_1 : Int) : Option (Int × Int × Int) := if a0 = 1 then (some (0, 0, 1)) else ((reals_check.f k a0 0 (([(⟨a1_0, a1_1⟩ : S29)] : List (S29)))).bind fun bt732 => (if bt732.2 = 0 then (some (a1_0, a1_1, 0)) else (some (0, 0, bt732.2))))
theorem reals_Leng.mono : ∀ a0 a1 a2 k, LeO (reals_Leng.f k a0 a1 a2) (reals_Leng.f (k + 1) a0 a1 a2) := by
 intro a0 a1 a2 k
 unfold reals_Leng.f
 repeat' first
   | (with_reducible exact reals_check.mono _ _ _ _)
   | (with_reducible exact LeO.refl _)
   | (with_reducible exact LeO.none _)
   | (with_reducible refine LeO.ite ?_ ?_)
   | (with_reducible refine LeO.bind ?_ (fun _ => ?_))
   | exact reals_check.mono _ _ _ _
   | exact LeO.none _
   | refine LeO.ite ?_ ?_
   | refine LeO.bind ?_ (fun _ => ?_)
set_option maxHeartbeats 8000000 in
set_option maxRecDepth 100000 in
theorem reals_Leng.calls (k : Nat) (a0 : Int) (a1_0 : Int) (a1_1 : Int) (r1 : Int) (r2 : Int) (r3 : Int) (w : World) (h : reals_Leng.f k a0 a1_0 a1_1 = some (r1, r2, r3)) :
  Calls Try.prog 36 #[.int .i64 a0, .agg #[.int .i64 a1_0, .int .i64 a1_1]] w fun e w' => e = .returned (.tuple #[.agg #[.int .i64 r1, .int .i64 r2], .int .i64 r3]) ∧ Below w.heap.size w w' := by
 have hu29 := Try.underlying29
 have HB := Aside0.mk (Below.refl w.heap.size w)
 have H : (if a0 = 1 then (some (0, 0, 1)) else ((reals_check.f k a0 0 (([(⟨a1_0, a1_1⟩ : S29)] : List (S29)))).bind fun bt732 => (if bt732.2 = 0 then (some (a1_0, a1_1, 0)) else (some (0, 0, bt732.2))))) = some (r1, r2, r3) := h
 clear h
 by_cases c3 : a0 = 1
 ·rw [if_pos c3] at H
  have c3b0 : (a0 == 1) = true := beq_iff_eq.mpr c3
  have c3b1 : (a0 != 1) = false := bne_eq_false_iff_eq.mpr c3
  clear c3
  simp only [Option.some.injEq, Prod.mk.injEq] at H
  obtain ⟨rfl, rfl, rfl⟩ := H
  go_enter Try.func36, Try.ntmps36
  go_wp2_with (first | ((with_reducible refine gate_dst (N := 3) rfl ?_); refine box_event ?hg (N := 3) ?hd (cs := #[.int .i64 a1_0, .int .i64 a1_1]) (t := 29) ?hr ?_; (case hd => rfl); (case hg => rfl); (case hr => first | (go_simp; done) | (go_simp; rfl)); intro gb727 hg w4 hbox hb; have BK727 := Aside0.mk (hbox); have GW727 := Aside0.mk (bs HB hg : w.heap.size ≤ gb727); replace HB := Aside0.mk (below_step (bw HB) hb); clear hb hbox hg) | ((with_reducible refine gate_dst (N := 4) rfl ?_); refine box_event ?hg (N := 4) ?hd (cs := #[.int .i64 0, .int .i64 0]) (t := 29) ?hr ?_; (case hd => rfl); (case hg => rfl); (case hr => first | (go_simp; done) | (go_simp; rfl)); intro gb728 hg w5 hbox hb; have BK728 := Aside0.mk (hbox); have GW728 := Aside0.mk (bs HB hg : w.heap.size ≤ gb728); replace HB := Aside0.mk (below_step (bw HB) hb); have NB727_728 := Aside0.mk (nl BK727 hg); have NB728_727 := Aside0.mk (ng BK727 hg); replace BK727 := Aside0.mk (bb BK727 hb); clear hb hbox hg; have hnb6 := NB728_727.out; have hnc6 := NB727_728.out; obtain ⟨hcz7_0, hcz7_1, hfz7_0, hfz7_1⟩ := cf2 BK728))
  refine bodyPost_ret (results_ct rfl _ _ gb728 29 #[.int .i64 0, .int .i64 0] (0, 0) _ rfl (by (with_reducible repeat (first | refine blk_drewN ?_ _ | refine blk_drew ?_ | refine blk_alloc ?_ _)); refine blk_put (cs := #[.int .i64 0, .int .i64 0]) ?_ 1 _ rfl; (with_reducible repeat (first | refine blk_drewN ?_ _ | refine blk_drew ?_ | refine blk_alloc ?_ _)); refine blk_put (cs := #[.int .i64 0, .int .i64 0]) ?_ 0 _ rfl; (with_reducible repeat (first | refine blk_drewN ?_ _ | refine blk_drew ?_ | refine blk_alloc ?_ _)); exact BK728.out) Try.underlying29 rfl (by kernel_rfl)) rfl ?_
  exact ⟨by first | rfl | (simp [errW_none, errW_some] <;> rfl) | (simp [*, errW_none, errW_some] <;> rfl), bw HB⟩
 ·rw [if_neg c3] at H
  have c3b0 : (a0 == 1) = false := beq_eq_false_iff_ne.mpr c3
  have c3b1 : (a0 != 1) = true := bne_iff_ne.mpr c3
  obtain ⟨y729, hy729⟩ : ∃ y_ : List (S29), y_ = (([(⟨a1_0, a1_1⟩ : S29)] : List (S29))) := ⟨_, rfl⟩
  replace H : ((reals_check.f k a0 0 y729).bind fun bt732 => (if bt732.2 = 0 then (some (a1_0, a1_1, 0)) else (some (0, 0, bt732.2)))) = some (r1, r2, r3) := by first | (rw [hy729]; with_reducible exact H) | (have H2_ := (Option.bind_some _ _).symm.trans H; rw [hy729]; with_reducible exact H2_) | (have H2_ := (Option.bind_some _ _).symm.trans H; with_reducible exact H2_) | with_reducible exact H | (rw [hy729]; exact H) | exact H
  have Ny729 := Aside0.mk hy729
  clear hy729
  replace H := Option.bind_eq_some_iff.mp H
  obtain ⟨⟨t732, t733⟩, A80, H⟩ := H
  replace H : (if t733 = 0 then (some (a1_0, a1_1, 0)) else (some (0, 0, t733))) = some (r1, r2, r3) := H
  have A8 := Aside0.mk A80
  clear A80
  by_cases c9 : t733 = 0
  ·rw [if_pos c9] at H
   have c9b0 : (t733 == 0) = true := beq_iff_eq.mpr c9
   have c9b1 : (t733 != 0) = false := bne_eq_false_iff_eq.mpr c9
   clear c9
   simp only [Option.some.injEq, Prod.mk.injEq] at H
   obtain ⟨rfl, rfl, rfl⟩ := H
   go_enter Try.func36, Try.ntmps36
   go_wp2_with (first | ((with_reducible refine gate_dst (N := 3) rfl ?_); refine box_event ?hg (N := 3) ?hd (cs := #[.int .i64 a1_0, .int .i64 a1_1]) (t := 29) ?hr ?_; (case hd => rfl); (case hg => rfl); (case hr => first | (go_simp; done) | (go_simp; rfl)); intro gb727 hg w10 hbox hb; have BK727 := Aside0.mk (hbox); have GW727 := Aside0.mk (bs HB hg : w.heap.size ≤ gb727); replace HB := Aside0.mk (below_step (bw HB) hb); clear hb hbox hg) | ((with_reducible refine gate_dst (N := 4) rfl ?_); refine box_event ?hg (N := 4) ?hd (cs := #[.int .i64 0, .int .i64 0]) (t := 29) ?hr ?_; (case hd => rfl); (case hg => rfl); (case hr => first | (go_simp; done) | (go_simp; rfl)); intro gb728 hg w11 hbox hb; have BK728 := Aside0.mk (hbox); have GW728 := Aside0.mk (bs HB hg : w.heap.size ≤ gb728); replace HB := Aside0.mk (below_step (bw HB) hb); have NB727_728 := Aside0.mk (nl BK727 hg); have NB728_727 := Aside0.mk (ng BK727 hg); replace BK727 := Aside0.mk (bb BK727 hb); clear hb hbox hg; have hnb12 := NB727_728.out; have hnc12 := NB728_727.out; obtain ⟨hcz13_0, hcz13_1, hfz13_0, hfz13_1⟩ := cf2 BK727) | ((with_reducible refine gate_dst (N := 14) rfl ?_); refine Kd.R_lit k29 _ 29 ?hg (N := 14) ?hd (xs := ([(⟨a1_0, a1_1⟩ : S29)] : List (S29))) (inner := [.int .i64 a1_0, .int .i64 a1_1]) (ok := fun _ => True) (okp := fun _ => True) ?hr ?hp (fun _ hk => hk) trivial (Below.refl _ _) (Nat.le_refl _) (by simp) ?_; (case hd => rfl); (case hg => rfl); (case hr => first | (go_simp; done) | (go_simp; rfl)); (case hp => exact (Reps.c2 (show Kd.M k29 _ _ _ (⟨a1_0, a1_1⟩ : S29) [.int .i64 a1_0, .int .i64 a1_1] from (k29_mkM _ _ _ (⟨a1_0, a1_1⟩ : S29) )) (Reps.none _ _))); intro v730 w14 ho15 hb hg_ hnew_; clear hg_ hnew_; (first | rw [← Ny729.out] at ho15 | (simp only [Int.reduceToNat] at ho15; rw [← Ny729.out] at ho15)); have HO731 := Aside0.mk (Kd.R_lower (Kd.R_newB (Kd.R_newB ho15 (g := gb727) (o := .cells #[.int .i64 a1_0, .int .i64 a1_1] 29 (0, 0)) (bk BK727)) (g := gb728) (o := .cells #[.int .i64 0, .int .i64 0] 29 (0, 0)) (bk BK728)) (below_size (bw HB))); replace BK727 := Aside0.mk (bb BK727 hb); replace BK728 := Aside0.mk (bb BK728 hb); replace HB := Aside0.mk (below_step (bw HB) hb); clear hb ho15; obtain ⟨Ao16, co16, eo16⟩ := Kd.R_slice HO731.out; subst eo16) | ((with_reducible refine gate_callee (f := 50) rfl ?_); refine goesL_ (some 15) rfl rfl Try.func50 (by kernel_rfl) rfl #[.int .i64 a0, .int .i64 0, .slice Ao16 y729.length co16] rfl (by (try simp only [List.map_toArray, List.map_cons, List.map_nil]); first | done | rfl | (simp only [List.length_drop, List.length_take]; rfl)) ?_; (with_reducible refine (reals_check.calls k a0 0 _ _ y729 t732 t733 _ ?side1 ?side2 A8.out).mono ?_); (case side1 => repeat (first | exact (Kd.R_reads' HO731.out).2.2 | (with_reducible refine Kd.C_alloc ?_ _) | (with_reducible refine Kd.C_drewN ?_ _) | (with_reducible refine Kd.C_drew ?_))); (case side2 => exact (Kd.R_reads' HO731.out).2.1); rintro e w17 ⟨rfl, hb⟩; refine ⟨_, rfl, ?_⟩; replace HO731 := Aside0.mk (Kd.R_below (by (with_reducible repeat (first | apply Kd.R_alloc | apply Kd.R_drewN | apply Kd.R_drew)); exact HO731.out) hb); replace BK727 := Aside0.mk (bb BK727 hb); replace BK728 := Aside0.mk (bb BK728 hb); replace HB := Aside0.mk (below_step (bw HB) hb); (try clear hb); (try clear hb2); (try clear hk); (try clear hi); obtain ⟨hcz18_0, hcz18_1, hfz18_0, hfz18_1⟩ := cf2 BK727; obtain ⟨hcz19_0, hcz19_1, hfz19_0, hfz19_1⟩ := cf2 BK728))
   refine bodyPost_ret (results_ct rfl _ _ gb728 29 #[.int .i64 a1_0, .int .i64 a1_1] (0, 0) _ rfl (by (with_reducible repeat (first | refine blk_drewN ?_ _ | refine blk_drew ?_ | refine blk_alloc ?_ _)); refine blk_put (cs := #[.int .i64 a1_0, .int .i64 0]) ?_ 1 _ rfl; (with_reducible repeat (first | refine blk_drewN ?_ _ | refine blk_drew ?_ | refine blk_alloc ?_ _)); refine blk_put (cs := #[.int .i64 0, .int .i64 0]) ?_ 0 _ rfl; (with_reducible repeat (first | refine blk_drewN ?_ _ | refine blk_drew ?_ | refine blk_alloc ?_ _)); exact BK728.out) Try.underlying29 rfl (by kernel_rfl)) rfl ?_
   exact ⟨by first | rfl | (simp [errW_none, errW_some] <;> rfl) | (simp [*, errW_none, errW_some] <;> rfl), bw HB⟩
  ·rw [if_neg c9] at H
   have c9b0 : (t733 == 0) = false := beq_eq_false_iff_ne.mpr c9
   have c9b1 : (t733 != 0) = true := bne_iff_ne.mpr c9
   simp only [Option.some.injEq, Prod.mk.injEq] at H
   obtain ⟨rfl, rfl, rfl⟩ := H
   go_enter Try.func36, Try.ntmps36
   go_wp2_with (first | ((with_reducible refine gate_dst (N := 3) rfl ?_); refine box_event ?hg (N := 3) ?hd (cs := #[.int .i64 a1_0, .int .i64 a1_1]) (t := 29) ?hr ?_; (case hd => rfl); (case hg => rfl); (case hr => first | (go_simp; done) | (go_simp; rfl)); intro gb727 hg w20 hbox hb; have BK727 := Aside0.mk (hbox); have GW727 := Aside0.mk (bs HB hg : w.heap.size ≤ gb727); replace HB := Aside0.mk (below_step (bw HB) hb); clear hb hbox hg) | ((with_reducible refine gate_dst (N := 4) rfl ?_); refine box_event ?hg (N := 4) ?hd (cs := #[.int .i64 0, .int .i64 0]) (t := 29) ?hr ?_; (case hd => rfl); (case hg => rfl); (case hr => first | (go_simp; done) | (go_simp; rfl)); intro gb728 hg w21 hbox hb; have BK728 := Aside0.mk (hbox); have GW728 := Aside0.mk (bs HB hg : w.heap.size ≤ gb728); replace HB := Aside0.mk (below_step (bw HB) hb); have NB727_728 := Aside0.mk (nl BK727 hg); have NB728_727 := Aside0.mk (ng BK727 hg); replace BK727 := Aside0.mk (bb BK727 hb); clear hb hbox hg; have hnb22 := NB727_728.out; have hnc22 := NB728_727.out; obtain ⟨hcz23_0, hcz23_1, hfz23_0, hfz23_1⟩ := cf2 BK727) | ((with_reducible refine gate_dst (N := 14) rfl ?_); refine Kd.R_lit k29 _ 29 ?hg (N := 14) ?hd (xs := ([(⟨a1_0, a1_1⟩ : S29)] : List (S29))) (inner := [.int .i64 a1_0, .int .i64 a1_1]) (ok := fun _ => True) (okp := fun _ => True) ?hr ?hp (fun _ hk => hk) trivial (Below.refl _ _) (Nat.le_refl _) (by simp) ?_; (case hd => rfl); (case hg => rfl); (case hr => first | (go_simp; done) | (go_simp; rfl)); (case hp => exact (Reps.c2 (show Kd.M k29 _ _ _ (⟨a1_0, a1_1⟩ : S29) [.int .i64 a1_0, .int .i64 a1_1] from (k29_mkM _ _ _ (⟨a1_0, a1_1⟩ : S29) )) (Reps.none _ _))); intro v730 w24 ho25 hb hg_ hnew_; clear hg_ hnew_; (first | rw [← Ny729.out] at ho25 | (simp only [Int.reduceToNat] at ho25; rw [← Ny729.out] at ho25)); have HO731 := Aside0.mk (Kd.R_lower (Kd.R_newB (Kd.R_newB ho25 (g := gb727) (o := .cells #[.int .i64 a1_0, .int .i64 a1_1] 29 (0, 0)) (bk BK727)) (g := gb728) (o := .cells #[.int .i64 0, .int .i64 0] 29 (0, 0)) (bk BK728)) (below_size (bw HB))); replace BK727 := Aside0.mk (bb BK727 hb); replace BK728 := Aside0.mk (bb BK728 hb); replace HB := Aside0.mk (below_step (bw HB) hb); clear hb ho25; obtain ⟨Ao26, co26, eo26⟩ := Kd.R_slice HO731.out; subst eo26) | ((with_reducible refine gate_callee (f := 50) rfl ?_); refine goesL_ (some 15) rfl rfl Try.func50 (by kernel_rfl) rfl #[.int .i64 a0, .int .i64 0, .slice Ao26 y729.length co26] rfl (by (try simp only [List.map_toArray, List.map_cons, List.map_nil]); first | done | rfl | (simp only [List.length_drop, List.length_take]; rfl)) ?_; (with_reducible refine (reals_check.calls k a0 0 _ _ y729 t732 t733 _ ?side1 ?side2 A8.out).mono ?_); (case side1 => repeat (first | exact (Kd.R_reads' HO731.out).2.2 | (with_reducible refine Kd.C_alloc ?_ _) | (with_reducible refine Kd.C_drewN ?_ _) | (with_reducible refine Kd.C_drew ?_))); (case side2 => exact (Kd.R_reads' HO731.out).2.1); rintro e w27 ⟨rfl, hb⟩; refine ⟨_, rfl, ?_⟩; replace HO731 := Aside0.mk (Kd.R_below (by (with_reducible repeat (first | apply Kd.R_alloc | apply Kd.R_drewN | apply Kd.R_drew)); exact HO731.out) hb); replace BK727 := Aside0.mk (bb BK727 hb); replace BK728 := Aside0.mk (bb BK728 hb); replace HB := Aside0.mk (below_step (bw HB) hb); (try clear hb); (try clear hb2); (try clear hk); (try clear hi); obtain ⟨hcz28_0, hcz28_1, hfz28_0, hfz28_1⟩ := cf2 BK728))
   refine bodyPost_ret (results_ct rfl _ _ gb728 29 #[.int .i64 0, .int .i64 0] (0, 0) _ rfl (by (with_reducible repeat (first | refine blk_drewN ?_ _ | refine blk_drew ?_ | refine blk_alloc ?_ _)); refine blk_put (cs := #[.int .i64 0, .int .i64 0]) ?_ 1 _ rfl; (with_reducible repeat (first | refine blk_drewN ?_ _ | refine blk_drew ?_ | refine blk_alloc ?_ _)); refine blk_put (cs := #[.int .i64 0, .int .i64 0]) ?_ 0 _ rfl; (with_reducible repeat (first | refine blk_drewN ?_ _ | refine blk_drew ?_ | refine blk_alloc ?_ _)); exact BK728.out) Try.underlying29 rfl (by kernel_rfl)) rfl ?_
   exact ⟨by first | rfl | (simp [errW_none, errW_some] <;> rfl) | (simp [*, errW_none, errW_some] <;> rfl), bw HB⟩

/-! ### reals_Shorten: function 37 -/
def reals_Shorten.f (k : Nat) (a0 : Int) (a1 : Int) (a2_0 : Int) (a2_1 : Int) : Option (Int × Int × Int) := if a0 = (-1) then (some (0, 0, 1)) else ((reals_check.f k a0 a1 (([(⟨a2_0, a2_1⟩ : S29)] : List (S29)))).bind fun bt739 => (if bt739.2 = 0 then ((reals_Digits.f (wrap64 (a0 - 1))).bind fun bt741 => ((reals_of.f a2_0 a2_1).bind fun bt743 => ((reals_exact_round.f k bt743.1 bt743.2.1 bt743.2.2.1 bt743.2.2.2.1 bt743.2.2.2.2 bt741.1 a1).bind fun bt748 => (some (bt748.1, bt748.2.1, bt748.2.2))))) else (some (0, 0, bt739.2))))
theorem reals_Shorten.mono : ∀ a0 a1 a2 a3 k, LeO (reals_Shorten.f k a0 a1 a2 a3) (reals_Shorten.f (k + 1) a0 a1 a2 a3) := by
 intro a0 a1 a2 a3 k
 unfold reals_Shorten.f
 repeat' first
   | (with_reducible exact reals_check.mono _ _ _ _)
   | (with_reducible exact reals_exact_round.mono _ _ _ _ _ _ _ _)
   | (with_reducible exact LeO.refl _)
   | (with_reducible exact LeO.none _)
   | (with_reducible refine LeO.ite ?_ ?_)
   | (with_reducible refine LeO.bind ?_ (fun _ => ?_))
   | exact reals_check.mono _ _ _ _
   | exact reals_exact_round.mono _ _ _ _ _ _ _ _
   | exact LeO.none _
   | refine LeO.ite ?_ ?_
   | refine LeO.bind ?_ (fun _ => ?_)
set_option maxHeartbeats 8000000 in
set_option maxRecDepth 100000 in
theorem reals_Shorten.calls (k : Nat) (a0 : Int) (a1 : Int) (a2_0 : Int) (a2_1 : Int) (r1 : Int) (r2 : Int) (r3 : Int) (w : World) (h : reals_Shorten.f k a0 a1 a2_0 a2_1 = some (r1, r2, r3)) :
  Calls Try.prog 37 #[.int .i64 a0, .int .i64 a1, .agg #[.int .i64 a2_0, .int .i64 a2_1]] w fun e w' => e = .returned (.tuple #[.agg #[.int .i64 r1, .int .i64 r2], .int .i64 r3]) ∧ Below w.heap.size w w' := by
 have hu29 := Try.underlying29
 have HB := Aside0.mk (Below.refl w.heap.size w)
 have H : (if a0 = (-1) then (some (0, 0, 1)) else ((reals_check.f k a0 a1 (([(⟨a2_0, a2_1⟩ : S29)] : List (S29)))).bind fun bt739 => (if bt739.2 = 0 then ((reals_Digits.f (wrap64 (a0 - 1))).bind fun bt741 => ((reals_of.f a2_0 a2_1).bind fun bt743 => ((reals_exact_round.f k bt743.1 bt743.2.1 bt743.2.2.1 bt743.2.2.2.1 bt743.2.2.2.2 bt741.1 a1).bind fun bt748 => (some (bt748.1, bt748.2.1, bt748.2.2))))) else (some (0, 0, bt739.2))))) = some (r1, r2, r3) := h
 clear h
 by_cases c4 : a0 = (-1)
 ·rw [if_pos c4] at H
  have c4b0 : (a0 == (-1)) = true := beq_iff_eq.mpr c4
  have c4b1 : (a0 != (-1)) = false := bne_eq_false_iff_eq.mpr c4
  clear c4
  simp only [Option.some.injEq, Prod.mk.injEq] at H
  obtain ⟨rfl, rfl, rfl⟩ := H
  go_enter Try.func37, Try.ntmps37
  go_wp2_with (first | ((with_reducible refine gate_dst (N := 5) rfl ?_); refine box_event ?hg (N := 5) ?hd (cs := #[.int .i64 a2_0, .int .i64 a2_1]) (t := 29) ?hr ?_; (case hd => rfl); (case hg => rfl); (case hr => first | (go_simp; done) | (go_simp; rfl)); intro gb734 hg w5 hbox hb; have BK734 := Aside0.mk (hbox); have GW734 := Aside0.mk (bs HB hg : w.heap.size ≤ gb734); replace HB := Aside0.mk (below_step (bw HB) hb); clear hb hbox hg) | ((with_reducible refine gate_dst (N := 6) rfl ?_); refine box_event ?hg (N := 6) ?hd (cs := #[.int .i64 0, .int .i64 0]) (t := 29) ?hr ?_; (case hd => rfl); (case hg => rfl); (case hr => first | (go_simp; done) | (go_simp; rfl)); intro gb735 hg w6 hbox hb; have BK735 := Aside0.mk (hbox); have GW735 := Aside0.mk (bs HB hg : w.heap.size ≤ gb735); replace HB := Aside0.mk (below_step (bw HB) hb); have NB734_735 := Aside0.mk (nl BK734 hg); have NB735_734 := Aside0.mk (ng BK734 hg); replace BK734 := Aside0.mk (bb BK734 hb); clear hb hbox hg; have hnb7 := NB735_734.out; have hnc7 := NB734_735.out; obtain ⟨hcz8_0, hcz8_1, hfz8_0, hfz8_1⟩ := cf2 BK735))
  refine bodyPost_ret (results_ct rfl _ _ gb735 29 #[.int .i64 0, .int .i64 0] (0, 0) _ rfl (by (with_reducible repeat (first | refine blk_drewN ?_ _ | refine blk_drew ?_ | refine blk_alloc ?_ _)); refine blk_put (cs := #[.int .i64 0, .int .i64 0]) ?_ 1 _ rfl; (with_reducible repeat (first | refine blk_drewN ?_ _ | refine blk_drew ?_ | refine blk_alloc ?_ _)); refine blk_put (cs := #[.int .i64 0, .int .i64 0]) ?_ 0 _ rfl; (with_reducible repeat (first | refine blk_drewN ?_ _ | refine blk_drew ?_ | refine blk_alloc ?_ _)); exact BK735.out) Try.underlying29 rfl (by kernel_rfl)) rfl ?_
  exact ⟨by first | rfl | (simp [errW_none, errW_some] <;> rfl) | (simp [*, errW_none, errW_some] <;> rfl), bw HB⟩
 ·rw [if_neg c4] at H
  have c4b0 : (a0 == (-1)) = false := beq_eq_false_iff_ne.mpr c4
  have c4b1 : (a0 != (-1)) = true := bne_iff_ne.mpr c4
  obtain ⟨y736, hy736⟩ : ∃ y_ : List (S29), y_ = (([(⟨a2_0, a2_1⟩ : S29)] : List (S29))) := ⟨_, rfl⟩
  replace H : ((reals_check.f k a0 a1 y736).bind fun bt739 => (if bt739.2 = 0 then ((reals_Digits.f (wrap64 (a0 - 1))).bind fun bt741 => ((reals_of.f a2_0 a2_1).bind fun bt743 => ((reals_exact_round.f k bt743.1 bt743.2.1 bt743.2.2.1 bt743.2.2.2.1 bt743.2.2.2.2 bt741.1 a1).bind fun bt748 => (some (bt748.1, bt748.2.1, bt748.2.2))))) else (some (0, 0, bt739.2)))) = some (r1, r2, r3) := by first | (rw [hy736]; with_reducible exact H) | (have H2_ := (Option.bind_some _ _).symm.trans H; rw [hy736]; with_reducible exact H2_) | (have H2_ := (Option.bind_some _ _).symm.trans H; with_reducible exact H2_) | with_reducible exact H | (rw [hy736]; exact H) | exact H
  have Ny736 := Aside0.mk hy736
  clear hy736
  replace H := Option.bind_eq_some_iff.mp H
  obtain ⟨⟨t739, t740⟩, A90, H⟩ := H
  replace H : (if t740 = 0 then ((reals_Digits.f (wrap64 (a0 - 1))).bind fun bt741 => ((reals_of.f a2_0 a2_1).bind fun bt743 => ((reals_exact_round.f k bt743.1 bt743.2.1 bt743.2.2.1 bt743.2.2.2.1 bt743.2.2.2.2 bt741.1 a1).bind fun bt748 => (some (bt748.1, bt748.2.1, bt748.2.2))))) else (some (0, 0, t740))) = some (r1, r2, r3) := H
  have A9 := Aside0.mk A90
  clear A90
  by_cases c10 : t740 = 0
  ·rw [if_pos c10] at H
   have c10b0 : (t740 == 0) = true := beq_iff_eq.mpr c10
   have c10b1 : (t740 != 0) = false := bne_eq_false_iff_eq.mpr c10
   clear c10
   replace H := Option.bind_eq_some_iff.mp H
   obtain ⟨⟨t741, t742⟩, A110, H⟩ := H
   replace H : ((reals_of.f a2_0 a2_1).bind fun bt743 => ((reals_exact_round.f k bt743.1 bt743.2.1 bt743.2.2.1 bt743.2.2.2.1 bt743.2.2.2.2 t741 a1).bind fun bt748 => (some (bt748.1, bt748.2.1, bt748.2.2)))) = some (r1, r2, r3) := H
   have A11 := Aside0.mk A110
   clear A110
   replace H := Option.bind_eq_some_iff.mp H
   obtain ⟨⟨t743, t744, t745, t746, t747⟩, A120, H⟩ := H
   replace H : ((reals_exact_round.f k t743 t744 t745 t746 t747 t741 a1).bind fun bt748 => (some (bt748.1, bt748.2.1, bt748.2.2))) = some (r1, r2, r3) := H
   have A12 := Aside0.mk A120
   clear A120
   replace H := Option.bind_eq_some_iff.mp H
   obtain ⟨⟨t748, t749, t750⟩, A130, H⟩ := H
   replace H : (some (t748, t749, t750)) = some (r1, r2, r3) := H
   have A13 := Aside0.mk A130
   clear A130
   simp only [Option.some.injEq, Prod.mk.injEq] at H
   obtain ⟨rfl, rfl, rfl⟩ := H
   go_enter Try.func37, Try.ntmps37
   go_wp2_with (first | ((with_reducible refine gate_dst (N := 5) rfl ?_); refine box_event ?hg (N := 5) ?hd (cs := #[.int .i64 a2_0, .int .i64 a2_1]) (t := 29) ?hr ?_; (case hd => rfl); (case hg => rfl); (case hr => first | (go_simp; done) | (go_simp; rfl)); intro gb734 hg w14 hbox hb; have BK734 := Aside0.mk (hbox); have GW734 := Aside0.mk (bs HB hg : w.heap.size ≤ gb734); replace HB := Aside0.mk (below_step (bw HB) hb); clear hb hbox hg) | ((with_reducible refine gate_dst (N := 6) rfl ?_); refine box_event ?hg (N := 6) ?hd (cs := #[.int .i64 0, .int .i64 0]) (t := 29) ?hr ?_; (case hd => rfl); (case hg => rfl); (case hr => first | (go_simp; done) | (go_simp; rfl)); intro gb735 hg w15 hbox hb; have BK735 := Aside0.mk (hbox); have GW735 := Aside0.mk (bs HB hg : w.heap.size ≤ gb735); replace HB := Aside0.mk (below_step (bw HB) hb); have NB734_735 := Aside0.mk (nl BK734 hg); have NB735_734 := Aside0.mk (ng BK734 hg); replace BK734 := Aside0.mk (bb BK734 hb); clear hb hbox hg; have hnb16 := NB734_735.out; have hnc16 := NB735_734.out; obtain ⟨hcz17_0, hcz17_1, hfz17_0, hfz17_1⟩ := cf2 BK734) | ((with_reducible refine gate_dst (N := 19) rfl ?_); refine Kd.R_lit k29 _ 29 ?hg (N := 19) ?hd (xs := ([(⟨a2_0, a2_1⟩ : S29)] : List (S29))) (inner := [.int .i64 a2_0, .int .i64 a2_1]) (ok := fun _ => True) (okp := fun _ => True) ?hr ?hp (fun _ hk => hk) trivial (Below.refl _ _) (Nat.le_refl _) (by simp) ?_; (case hd => rfl); (case hg => rfl); (case hr => first | (go_simp; done) | (go_simp; rfl)); (case hp => exact (Reps.c2 (show Kd.M k29 _ _ _ (⟨a2_0, a2_1⟩ : S29) [.int .i64 a2_0, .int .i64 a2_1] from (k29_mkM _ _ _ (⟨a2_0, a2_1⟩ : S29) )) (Reps.none _ _))); intro v737 w18 ho19 hb hg_ hnew_; clear hg_ hnew_; (first | rw [← Ny736.out] at ho19 | (simp only [Int.reduceToNat] at ho19; rw [← Ny736.out] at ho19)); have HO738 := Aside0.mk (Kd.R_lower (Kd.R_newB (Kd.R_newB ho19 (g := gb734) (o := .cells #[.int .i64 a2_0, .int .i64 a2_1] 29 (0, 0)) (bk BK734)) (g := gb735) (o := .cells #[.int .i64 0, .int .i64 0] 29 (0, 0)) (bk BK735)) (below_size (bw HB))); replace BK734 := Aside0.mk (bb BK734 hb); replace BK735 := Aside0.mk (bb BK735 hb); replace HB := Aside0.mk (below_step (bw HB) hb); clear hb ho19; obtain ⟨Ao20, co20, eo20⟩ := Kd.R_slice HO738.out; subst eo20) | ((with_reducible refine gate_callee (f := 50) rfl ?_); refine goesL_ (some 20) rfl rfl Try.func50 (by kernel_rfl) rfl #[.int .i64 a0, .int .i64 a1, .slice Ao20 y736.length co20] rfl (by (try simp only [List.map_toArray, List.map_cons, List.map_nil]); first | done | rfl | (simp only [List.length_drop, List.length_take]; rfl)) ?_; (with_reducible refine (reals_check.calls k a0 a1 _ _ y736 t739 t740 _ ?side1 ?side2 A9.out).mono ?_); (case side1 => repeat (first | exact (Kd.R_reads' HO738.out).2.2 | (with_reducible refine Kd.C_alloc ?_ _) | (with_reducible refine Kd.C_drewN ?_ _) | (with_reducible refine Kd.C_drew ?_))); (case side2 => exact (Kd.R_reads' HO738.out).2.1); rintro e w21 ⟨rfl, hb⟩; refine ⟨_, rfl, ?_⟩; replace HO738 := Aside0.mk (Kd.R_below (by (with_reducible repeat (first | apply Kd.R_alloc | apply Kd.R_drewN | apply Kd.R_drew)); exact HO738.out) hb); replace BK734 := Aside0.mk (bb BK734 hb); replace BK735 := Aside0.mk (bb BK735 hb); replace HB := Aside0.mk (below_step (bw HB) hb); (try clear hb); (try clear hb2); (try clear hk); (try clear hi)) | ((with_reducible refine gate_callee (f := 12) rfl ?_); refine goesL_ (some 30) rfl rfl Try.func12 (by kernel_rfl) rfl #[.int .i64 (wrap64 (a0 - 1))] rfl (by (try simp only [List.map_toArray, List.map_cons, List.map_nil]); first | done | rfl | (simp only [List.length_drop, List.length_take]; rfl)) ?_; (with_reducible refine (reals_Digits.calls (wrap64 (a0 - 1)) t741 t742 _ A11.out).mono ?_); rintro e w' ⟨rfl, ⟨nd, rfl⟩⟩; refine ⟨_, rfl, ?_⟩; (try (rw [drewN_self w21]; generalize hq_ : World.drewN w21 _ = w21; have n0_ : Aside0 (Kd.R k29 29 w21 w.heap.size (fun k_ => k_ ≠ gb734 ∧ k_ ≠ gb735) (.slice Ao20 y736.length co20) y736) := ⟨by rw [← hq_]; exact (by (with_reducible repeat (first | apply Kd.R_alloc | apply Kd.R_drewN | apply Kd.R_drew)); exact Kd.R_mono HO738.out (fun _ hk => ⟨hk.1.2, hk.2⟩))⟩; have n1_ : Aside0 (w21.heap[gb734]? = some (.cells #[.int .i64 a2_0, .int .i64 a2_1] 29 (0, 0))) := ⟨by rw [← hq_]; exact (bk BK734)⟩; have n2_ : Aside0 (w21.heap[gb735]? = some (.cells #[.int .i64 0, .int .i64 0] 29 (0, 0))) := ⟨by rw [← hq_]; exact (bk BK735)⟩; have n3_ : Aside0 (Below w.heap.size w w21) := ⟨by rw [← hq_]; exact (bw HB)⟩; clear HO738 BK734 BK735 HB hq_; have HO738 := n0_; have BK734 := n1_; have BK735 := n2_; have HB := n3_; clear n0_ n1_ n2_ n3_)); obtain ⟨hcz22_0, hcz22_1, hfz22_0, hfz22_1⟩ := cf2 BK734) | ((with_reducible refine gate_callee (f := 51) rfl ?_); refine goesL_ (some 34) rfl rfl Try.func51 (by kernel_rfl) rfl #[.agg #[.int .i64 a2_0, .int .i64 a2_1]] rfl (by (try simp only [List.map_toArray, List.map_cons, List.map_nil]); first | done | rfl | (simp only [List.length_drop, List.length_take]; rfl)) ?_; (with_reducible refine (reals_of.calls a2_0 a2_1 t743 t744 t745 t746 t747 _ A12.out).mono ?_); rintro e w23 ⟨rfl, hb⟩; refine ⟨_, rfl, ?_⟩; replace HO738 := Aside0.mk (Kd.R_below (by (with_reducible repeat (first | apply Kd.R_alloc | apply Kd.R_drewN | apply Kd.R_drew)); exact HO738.out) hb); replace BK734 := Aside0.mk (bb BK734 hb); replace BK735 := Aside0.mk (bb BK735 hb); replace HB := Aside0.mk (below_step (bw HB) hb); (try clear hb); (try clear hb2); (try clear hk); (try clear hi)) | ((with_reducible refine gate_callee (f := 52) rfl ?_); refine goesL_ (some 37) rfl rfl Try.func52 (by kernel_rfl) rfl #[.agg #[.bool t743, .int .u64 t744, .int .u64 t745, .int .i64 t746, .bool t747], .int .i64 t741, .int .i64 a1] rfl (by (try simp only [List.map_toArray, List.map_cons, List.map_nil]); first | done | rfl | (simp only [List.length_drop, List.length_take]; rfl)) ?_; (with_reducible refine (reals_exact_round.calls k t743 t744 t745 t746 t747 t741 a1 t748 t749 t750 _ A13.out).mono ?_); rintro e w24 ⟨rfl, hb⟩; refine ⟨_, rfl, ?_⟩; replace HO738 := Aside0.mk (Kd.R_below (by (with_reducible repeat (first | apply Kd.R_alloc | apply Kd.R_drewN | apply Kd.R_drew)); exact HO738.out) hb); replace BK734 := Aside0.mk (bb BK734 hb); replace BK735 := Aside0.mk (bb BK735 hb); replace HB := Aside0.mk (below_step (bw HB) hb); (try clear hb); (try clear hb2); (try clear hk); (try clear hi); obtain ⟨hcz25_0, hcz25_1, hfz25_0, hfz25_1⟩ := cf2 BK735))
   refine bodyPost_ret (results_ct rfl _ _ gb735 29 #[.int .i64 t748, .int .i64 t749] (0, 0) _ rfl (by (with_reducible repeat (first | refine blk_drewN ?_ _ | refine blk_drew ?_ | refine blk_alloc ?_ _)); refine blk_put (cs := #[.int .i64 t748, .int .i64 0]) ?_ 1 _ rfl; (with_reducible repeat (first | refine blk_drewN ?_ _ | refine blk_drew ?_ | refine blk_alloc ?_ _)); refine blk_put (cs := #[.int .i64 0, .int .i64 0]) ?_ 0 _ rfl; (with_reducible repeat (first | refine blk_drewN ?_ _ | refine blk_drew ?_ | refine blk_alloc ?_ _)); exact BK735.out) Try.underlying29 rfl (by kernel_rfl)) rfl ?_
   exact ⟨by first | rfl | (simp [errW_none, errW_some] <;> rfl) | (simp [*, errW_none, errW_some] <;> rfl), bw HB⟩
  ·rw [if_neg c10] at H
   have c10b0 : (t740 == 0) = false := beq_eq_false_iff_ne.mpr c10
   have c10b1 : (t740 != 0) = true := bne_iff_ne.mpr c10
   simp only [Option.some.injEq, Prod.mk.injEq] at H
   obtain ⟨rfl, rfl, rfl⟩ := H
   go_enter Try.func37, Try.ntmps37
   go_wp2_with (first | ((with_reducible refine gate_dst (N := 5) rfl ?_); refine box_event ?hg (N := 5) ?hd (cs := #[.int .i64 a2_0, .int .i64 a2_1]) (t := 29) ?hr ?_; (case hd => rfl); (case hg => rfl); (case hr => first | (go_simp; done) | (go_simp; rfl)); intro gb734 hg w26 hbox hb; have BK734 := Aside0.mk (hbox); have GW734 := Aside0.mk (bs HB hg : w.heap.size ≤ gb734); replace HB := Aside0.mk (below_step (bw HB) hb); clear hb hbox hg) | ((with_reducible refine gate_dst (N := 6) rfl ?_); refine box_event ?hg (N := 6) ?hd (cs := #[.int .i64 0, .int .i64 0]) (t := 29) ?hr ?_; (case hd => rfl); (case hg => rfl); (case hr => first | (go_simp; done) | (go_simp; rfl)); intro gb735 hg w27 hbox hb; have BK735 := Aside0.mk (hbox); have GW735 := Aside0.mk (bs HB hg : w.heap.size ≤ gb735); replace HB := Aside0.mk (below_step (bw HB) hb); have NB734_735 := Aside0.mk (nl BK734 hg); have NB735_734 := Aside0.mk (ng BK734 hg); replace BK734 := Aside0.mk (bb BK734 hb); clear hb hbox hg; have hnb28 := NB734_735.out; have hnc28 := NB735_734.out; obtain ⟨hcz29_0, hcz29_1, hfz29_0, hfz29_1⟩ := cf2 BK734) | ((with_reducible refine gate_dst (N := 19) rfl ?_); refine Kd.R_lit k29 _ 29 ?hg (N := 19) ?hd (xs := ([(⟨a2_0, a2_1⟩ : S29)] : List (S29))) (inner := [.int .i64 a2_0, .int .i64 a2_1]) (ok := fun _ => True) (okp := fun _ => True) ?hr ?hp (fun _ hk => hk) trivial (Below.refl _ _) (Nat.le_refl _) (by simp) ?_; (case hd => rfl); (case hg => rfl); (case hr => first | (go_simp; done) | (go_simp; rfl)); (case hp => exact (Reps.c2 (show Kd.M k29 _ _ _ (⟨a2_0, a2_1⟩ : S29) [.int .i64 a2_0, .int .i64 a2_1] from (k29_mkM _ _ _ (⟨a2_0, a2_1⟩ : S29) )) (Reps.none _ _))); intro v737 w30 ho31 hb hg_ hnew_; clear hg_ hnew_; (first | rw [← Ny736.out] at ho31 | (simp only [Int.reduceToNat] at ho31; rw [← Ny736.out] at ho31)); have HO738 := Aside0.mk (Kd.R_lower (Kd.R_newB (Kd.R_newB ho31 (g := gb734) (o := .cells #[.int .i64 a2_0, .int .i64 a2_1] 29 (0, 0)) (bk BK734)) (g := gb735) (o := .cells #[.int .i64 0, .int .i64 0] 29 (0, 0)) (bk BK735)) (below_size (bw HB))); replace BK734 := Aside0.mk (bb BK734 hb); replace BK735 := Aside0.mk (bb BK735 hb); replace HB := Aside0.mk (below_step (bw HB) hb); clear hb ho31; obtain ⟨Ao32, co32, eo32⟩ := Kd.R_slice HO738.out; subst eo32) | ((with_reducible refine gate_callee (f := 50) rfl ?_); refine goesL_ (some 20) rfl rfl Try.func50 (by kernel_rfl) rfl #[.int .i64 a0, .int .i64 a1, .slice Ao32 y736.length co32] rfl (by (try simp only [List.map_toArray, List.map_cons, List.map_nil]); first | done | rfl | (simp only [List.length_drop, List.length_take]; rfl)) ?_; (with_reducible refine (reals_check.calls k a0 a1 _ _ y736 t739 t740 _ ?side1 ?side2 A9.out).mono ?_); (case side1 => repeat (first | exact (Kd.R_reads' HO738.out).2.2 | (with_reducible refine Kd.C_alloc ?_ _) | (with_reducible refine Kd.C_drewN ?_ _) | (with_reducible refine Kd.C_drew ?_))); (case side2 => exact (Kd.R_reads' HO738.out).2.1); rintro e w33 ⟨rfl, hb⟩; refine ⟨_, rfl, ?_⟩; replace HO738 := Aside0.mk (Kd.R_below (by (with_reducible repeat (first | apply Kd.R_alloc | apply Kd.R_drewN | apply Kd.R_drew)); exact HO738.out) hb); replace BK734 := Aside0.mk (bb BK734 hb); replace BK735 := Aside0.mk (bb BK735 hb); replace HB := Aside0.mk (below_step (bw HB) hb); (try clear hb); (try clear hb2); (try clear hk); (try clear hi); obtain ⟨hcz34_0, hcz34_1, hfz34_0, hfz34_1⟩ := cf2 BK735))
   refine bodyPost_ret (results_ct rfl _ _ gb735 29 #[.int .i64 0, .int .i64 0] (0, 0) _ rfl (by (with_reducible repeat (first | refine blk_drewN ?_ _ | refine blk_drew ?_ | refine blk_alloc ?_ _)); refine blk_put (cs := #[.int .i64 0, .int .i64 0]) ?_ 1 _ rfl; (with_reducible repeat (first | refine blk_drewN ?_ _ | refine blk_drew ?_ | refine blk_alloc ?_ _)); refine blk_put (cs := #[.int .i64 0, .int .i64 0]) ?_ 0 _ rfl; (with_reducible repeat (first | refine blk_drewN ?_ _ | refine blk_drew ?_ | refine blk_alloc ?_ _)); exact BK735.out) Try.underlying29 rfl (by kernel_rfl)) rfl ?_
   exact ⟨by first | rfl | (simp [errW_none, errW_some] <;> rfl) | (simp [*, errW_none, errW_some] <;> rfl), bw HB⟩

-- NOT PRINTED: function 7 (environlaw02_RealsTurns)
end Go.Proofs.Ytamkjpjibkabaaa.PR
