-- written by a program of this session out of the kit's print (its words and its form)
import Derived.Test.YtamkjpjibkabaaaPRgA
import Derived.Test.YtamkjpjibkabaaaPRgC
import Derived.Test.YtamkjpjibkabaaaPRgD
import Derived.Test.YtamkjpjibkabaaaPRgE
import Derived.Test.YtamkjpjibkabaaaPRsq
import Derived.Test.YtamkjpjibkabaaaPRx0
namespace Go.Proofs.Ytamkjpjibkabaaa.PR
open Go.RowKit Go.Proofs.YtamkjpjibkabaaaW.PrintWords Go.Proofs.YtamkjpjibkabaaaW.PrintLast Go.Proofs.YtamkjpjibkabaaaW.PrintMore
attribute [local go_sem] max2_int min2_int max_two min_two max_three min_three max_four min_four   -- for this text's walks alone
set_option linter.unusedVariables false
set_option linter.unusedSimpArgs false

/-! ### reals_Add: function 21 -/
def reals_Add.j0 : Nat → Int → Int → Int → Int → Int → Int → Option (Int × Int × Int)
 | 0, _, _, _, _, _, _ => none
 | k + 1, x1, x10, x167000, x167001, x168000, x168001 => (reals_of.f x167000 x167001).bind fun bt174 => ((reals_of.f x168000 x168001).bind fun bt179 => ((reals_sum.f bt174.1 bt174.2.1 bt174.2.2.1 bt174.2.2.2.1 bt174.2.2.2.2 bt179.1 bt179.2.1 bt179.2.2.1 bt179.2.2.2.1 bt179.2.2.2.2).bind fun bt184 => ((reals_exact_round.f k bt184.1 bt184.2.1 bt184.2.2.1 bt184.2.2.2.1 bt184.2.2.2.2 x10 x1).bind fun bt189 => (some (bt189.1, bt189.2.1, bt189.2.2)))))
def reals_Add.f (k : Nat) (a0 : Int) (a1 : Int) (a2_0 : Int) (a2_1 : Int) (a3_0 : Int) (a3_1 : Int) : Option (Int × Int × Int) := (reals_check.f k a0 a1 (([(⟨a2_0, a2_1⟩ : S29), (⟨a3_0, a3_1⟩ : S29)] : List (S29)))).bind fun bt172 => (if bt172.2 = 0 then (if a2_0 = 0 then (some (a3_0, a3_1, 0)) else (if a3_0 = 0 then (some (a2_0, a2_1, 0)) else (if a2_1 < a3_1 then (reals_Add.j0 k a1 bt172.1 a3_0 a3_1 a2_0 a2_1) else (reals_Add.j0 k a1 bt172.1 a2_0 a2_1 a3_0 a3_1)))) else (some (0, 0, bt172.2)))
theorem reals_Add.mono_l : ∀ k, (∀ y0 y1 y2 y3 y4 y5, LeO (reals_Add.j0 k y0 y1 y2 y3 y4 y5) (reals_Add.j0 (k + 1) y0 y1 y2 y3 y4 y5))
 | 0 => fun _ _ _ _ _ _ r h => by simp [reals_Add.j0] at h
 | k + 1 => by
  have ih0 := reals_Add.mono_l k
  ·intro y0 y1 y2 y3 y4 y5
   unfold reals_Add.j0
   repeat' first
   | (with_reducible exact ih0 _ _ _ _ _ _)
   | (with_reducible exact reals_check.mono _ _ _ _)
   | (with_reducible exact reals_exact_round.mono _ _ _ _ _ _ _ _)
   | (with_reducible exact LeO.refl _)
   | (with_reducible exact LeO.none _)
   | (with_reducible refine LeO.ite ?_ ?_)
   | (with_reducible refine LeO.bind ?_ (fun _ => ?_))
   | exact ih0 _ _ _ _ _ _
   | exact reals_check.mono _ _ _ _
   | exact reals_exact_round.mono _ _ _ _ _ _ _ _
   | exact LeO.none _
   | refine LeO.ite ?_ ?_
   | refine LeO.bind ?_ (fun _ => ?_)
theorem reals_Add.mono : ∀ a0 a1 a2 a3 a4 a5 k, LeO (reals_Add.f k a0 a1 a2 a3 a4 a5) (reals_Add.f (k + 1) a0 a1 a2 a3 a4 a5) := by
 intro a0 a1 a2 a3 a4 a5 k
 have ih0 := reals_Add.mono_l k
 unfold reals_Add.f
 repeat' first
   | (with_reducible exact ih0 _ _ _ _ _ _)
   | (with_reducible exact reals_check.mono _ _ _ _)
   | (with_reducible exact reals_exact_round.mono _ _ _ _ _ _ _ _)
   | (with_reducible exact LeO.refl _)
   | (with_reducible exact LeO.none _)
   | (with_reducible refine LeO.ite ?_ ?_)
   | (with_reducible refine LeO.bind ?_ (fun _ => ?_))
   | exact ih0 _ _ _ _ _ _
   | exact reals_check.mono _ _ _ _
   | exact reals_exact_round.mono _ _ _ _ _ _ _ _
   | exact LeO.none _
   | refine LeO.ite ?_ ?_
   | refine LeO.bind ?_ (fun _ => ?_)
def reals_Add.T10 : Bool × List (List Nat × List Nat) := (true, [([], []), ([0], [0]), ([], []), ([2, 1], [2]), ([1, 3, 3], [1, 3]), ([], []), ([], []), ([4, 5, 6, 4], [4, 5, 6]), ([7], [7]), ([7], [7]), ([8, 7, 0, 1, 2, 3, 4, 5, 6, 7, 8, 9], [8]), ([9, 10, 0, 1, 2, 3, 4, 5, 6, 7, 8, 9, 10], [9])])
def reals_Add.B10 : List Nat := [0, 1, 0, 7, 15, 0, 0, 127, 255, 255, 1023, 2047]
theorem reals_Add.tab10 : rtab .any (opsOf Try.f21 10) = reals_Add.T10 := by kernel_rfl
theorem reals_Add.bits10 : waitsOk reals_Add.T10.2 reals_Add.B10 = true := by kernel_rfl
set_option maxHeartbeats 8000000 in
set_option maxRecDepth 100000 in
theorem reals_Add.calls (k : Nat) (a0 : Int) (a1 : Int) (a2_0 : Int) (a2_1 : Int) (a3_0 : Int) (a3_1 : Int) (r1 : Int) (r2 : Int) (r3 : Int) (w : World) (h : reals_Add.f k a0 a1 a2_0 a2_1 a3_0 a3_1 = some (r1, r2, r3)) :
  Calls Try.prog 21 #[.int .i64 a0, .int .i64 a1, .agg #[.int .i64 a2_0, .int .i64 a2_1], .agg #[.int .i64 a3_0, .int .i64 a3_1]] w fun e w' => e = .returned (.tuple #[.agg #[.int .i64 r1, .int .i64 r2], .int .i64 r3]) ∧ Below w.heap.size w w' := by
 have hu29 := Try.underlying29
 have HB := Aside0.mk (Below.refl w.heap.size w)
 have H : ((reals_check.f k a0 a1 (([(⟨a2_0, a2_1⟩ : S29), (⟨a3_0, a3_1⟩ : S29)] : List (S29)))).bind fun bt172 => (if bt172.2 = 0 then (if a2_0 = 0 then (some (a3_0, a3_1, 0)) else (if a3_0 = 0 then (some (a2_0, a2_1, 0)) else (if a2_1 < a3_1 then (reals_Add.j0 k a1 bt172.1 a3_0 a3_1 a2_0 a2_1) else (reals_Add.j0 k a1 bt172.1 a2_0 a2_1 a3_0 a3_1)))) else (some (0, 0, bt172.2)))) = some (r1, r2, r3) := h
 clear h
 obtain ⟨y169, hy169⟩ : ∃ y_ : List (S29), y_ = (([(⟨a2_0, a2_1⟩ : S29), (⟨a3_0, a3_1⟩ : S29)] : List (S29))) := ⟨_, rfl⟩
 replace H : ((reals_check.f k a0 a1 y169).bind fun bt172 => (if bt172.2 = 0 then (if a2_0 = 0 then (some (a3_0, a3_1, 0)) else (if a3_0 = 0 then (some (a2_0, a2_1, 0)) else (if a2_1 < a3_1 then (reals_Add.j0 k a1 bt172.1 a3_0 a3_1 a2_0 a2_1) else (reals_Add.j0 k a1 bt172.1 a2_0 a2_1 a3_0 a3_1)))) else (some (0, 0, bt172.2)))) = some (r1, r2, r3) := by first | (rw [hy169]; with_reducible exact H) | (have H2_ := (Option.bind_some _ _).symm.trans H; rw [hy169]; with_reducible exact H2_) | (have H2_ := (Option.bind_some _ _).symm.trans H; with_reducible exact H2_) | with_reducible exact H | (rw [hy169]; exact H) | exact H
 have Ny169 := Aside0.mk hy169
 clear hy169
 replace H := Option.bind_eq_some_iff.mp H
 obtain ⟨⟨t172, t173⟩, A50, H⟩ := H
 replace H : (if t173 = 0 then (if a2_0 = 0 then (some (a3_0, a3_1, 0)) else (if a3_0 = 0 then (some (a2_0, a2_1, 0)) else (if a2_1 < a3_1 then (reals_Add.j0 k a1 t172 a3_0 a3_1 a2_0 a2_1) else (reals_Add.j0 k a1 t172 a2_0 a2_1 a3_0 a3_1)))) else (some (0, 0, t173))) = some (r1, r2, r3) := H
 have A5 := Aside0.mk A50
 clear A50
 by_cases c6 : t173 = 0
 ·rw [if_pos c6] at H
  have c6b0 : (t173 == 0) = true := beq_iff_eq.mpr c6
  have c6b1 : (t173 != 0) = false := bne_eq_false_iff_eq.mpr c6
  clear c6
  by_cases c7 : a2_0 = 0
  ·rw [if_pos c7] at H
   have c7b0 : (a2_0 == 0) = true := beq_iff_eq.mpr c7
   have c7b1 : (a2_0 != 0) = false := bne_eq_false_iff_eq.mpr c7
   clear c7
   simp only [Option.some.injEq, Prod.mk.injEq] at H
   obtain ⟨rfl, rfl, rfl⟩ := H
   go_enter Try.func21, Try.ntmps21
   go_wp2_with (first | ((with_reducible refine gate_dst (N := 6) rfl ?_); refine box_event ?hg (N := 6) ?hd (cs := #[.int .i64 a2_0, .int .i64 a2_1]) (t := 29) ?hr ?_; (case hd => rfl); (case hg => rfl); (case hr => first | (go_simp; done) | (go_simp; rfl)); intro gb166 hg w8 hbox hb; have n0_ := Aside0.mk (below_step (bw HB) hb); have n1_ := Aside0.mk (hbox); have n2_ := Aside0.mk (bs HB hg : w.heap.size ≤ gb166); have n3_ := Aside0.mk (bs HB hg : w.heap.size ≤ gb166); clear HB; have HB := n0_; have BK166 := n1_; have GW166 := n2_; have GE166 := n3_; clear n0_ n1_ n2_ n3_; clear hb hbox hg) | ((with_reducible refine gate_dst (N := 7) rfl ?_); refine box_event ?hg (N := 7) ?hd (cs := #[.int .i64 a3_0, .int .i64 a3_1]) (t := 29) ?hr ?_; (case hd => rfl); (case hg => rfl); (case hr => first | (go_simp; done) | (go_simp; rfl)); intro gb167 hg w9 hbox hb; have n0_ := Aside0.mk (bb BK166 hb); have n1_ := Aside0.mk (below_step (bw HB) hb); have n2_ := Aside0.mk (hbox); have n3_ := Aside0.mk (bs HB hg : w.heap.size ≤ gb167); have n4_ := Aside0.mk (bs HB hg : w.heap.size ≤ gb167); have n5_ := Aside0.mk (nl BK166 hg); have n6_ := Aside0.mk (ng BK166 hg); clear BK166; clear HB; have BK166 := n0_; have HB := n1_; have BK167 := n2_; have GW167 := n3_; have GE167 := n4_; have NB166_167 := n5_; have NB167_166 := n6_; clear n0_ n1_ n2_ n3_ n4_ n5_ n6_; clear hb hbox hg) | ((with_reducible refine gate_dst (N := 8) rfl ?_); refine box_event ?hg (N := 8) ?hd (cs := #[.int .i64 0, .int .i64 0]) (t := 29) ?hr ?_; (case hd => rfl); (case hg => rfl); (case hr => first | (go_simp; done) | (go_simp; rfl)); intro gb168 hg w10 hbox hb; have n0_ := Aside0.mk (bb BK166 hb); have n1_ := Aside0.mk (bb BK167 hb); have n2_ := Aside0.mk (below_step (bw HB) hb); have n3_ := Aside0.mk (hbox); have n4_ := Aside0.mk (bs HB hg : w.heap.size ≤ gb168); have n5_ := Aside0.mk (bs HB hg : w.heap.size ≤ gb168); have n6_ := Aside0.mk (nl BK166 hg); have n7_ := Aside0.mk (ng BK166 hg); have n8_ := Aside0.mk (nl BK167 hg); have n9_ := Aside0.mk (ng BK167 hg); clear BK166; clear BK167; clear HB; have BK166 := n0_; have BK167 := n1_; have HB := n2_; have BK168 := n3_; have GW168 := n4_; have GE168 := n5_; have NB166_168 := n6_; have NB168_166 := n7_; have NB167_168 := n8_; have NB168_167 := n9_; clear n0_ n1_ n2_ n3_ n4_ n5_ n6_ n7_ n8_ n9_; clear hb hbox hg; have hnb11 := NB166_167.out; have hnc11 := NB167_166.out; have hnb12 := NB166_168.out; have hnc12 := NB168_166.out; have hcz13_0 := bc BK166 0 rfl; have hcz13_1 := bc BK166 1 rfl; have hfz13_0 := blk_frozen BK166.out 0; have hfz13_1 := blk_frozen BK166.out 1; have hnb14 := NB167_168.out; have hnc14 := NB168_167.out; have hcz15_0 := bc BK167 0 rfl; have hcz15_1 := bc BK167 1 rfl; have hfz15_0 := blk_frozen BK167.out 0; have hfz15_1 := blk_frozen BK167.out 1) | ((with_reducible refine gate_dst (N := 17) rfl ?_); refine Kd.R_lit k29 _ 29 ?hg (N := 17) ?hd (xs := ([(⟨a2_0, a2_1⟩ : S29), (⟨a3_0, a3_1⟩ : S29)] : List (S29))) (inner := [.int .i64 a2_0, .int .i64 a2_1, .int .i64 a3_0, .int .i64 a3_1]) (ok := fun _ => True) (okp := fun _ => True) ?hr ?hp (fun _ hk => hk) trivial (Below.refl _ _) (Nat.le_refl _) (by simp) ?_; (case hd => rfl); (case hg => rfl); (case hr => first | (go_simp; done) | (go_simp; rfl)); (case hp => exact (Reps.c2 (show Kd.M k29 _ _ _ (⟨a2_0, a2_1⟩ : S29) [.int .i64 a2_0, .int .i64 a2_1] from (k29_mkM _ _ _ (⟨a2_0, a2_1⟩ : S29) )) (Reps.c2 (show Kd.M k29 _ _ _ (⟨a3_0, a3_1⟩ : S29) [.int .i64 a3_0, .int .i64 a3_1] from (k29_mkM _ _ _ (⟨a3_0, a3_1⟩ : S29) )) (Reps.none _ _)))); intro v170 w16 ho17 hb hg_ hnew_; clear hg_ hnew_; (first | rw [← Ny169.out] at ho17 | (simp only [Int.reduceToNat] at ho17; rw [← Ny169.out] at ho17)); have n0_ := Aside0.mk (Kd.R_lower (Kd.R_newB (Kd.R_newB (Kd.R_newB ho17 (g := gb166) (o := .cells #[.int .i64 a2_0, .int .i64 a2_1] 29 (0, 0)) (bk BK166)) (g := gb167) (o := .cells #[.int .i64 a3_0, .int .i64 a3_1] 29 (0, 0)) (bk BK167)) (g := gb168) (o := .cells #[.int .i64 0, .int .i64 0] 29 (0, 0)) (bk BK168)) (below_size (bw HB))); have n1_ := Aside0.mk (bb BK166 hb); have n2_ := Aside0.mk (bb BK167 hb); have n3_ := Aside0.mk (bb BK168 hb); have n4_ := Aside0.mk (below_step (bw HB) hb); clear BK166; clear BK167; clear BK168; clear HB; have HO171 := n0_; have BK166 := n1_; have BK167 := n2_; have BK168 := n3_; have HB := n4_; clear n0_ n1_ n2_ n3_ n4_; clear hb ho17; obtain ⟨Ao18, co18, eo18⟩ := Kd.R_slice HO171.out; subst eo18) | ((with_reducible refine gate_callee (f := 50) rfl ?_); refine goesL_ (some 18) rfl rfl Try.func50 (by kernel_rfl) rfl #[.int .i64 a0, .int .i64 a1, .slice Ao18 y169.length co18] rfl (by (try simp only [List.map_toArray, List.map_cons, List.map_nil]); first | done | rfl | (simp only [List.length_drop, List.length_take]; rfl)) ?_; (with_reducible refine (reals_check.calls k a0 a1 _ _ y169 t172 t173 _ ?side1 ?side2 A5.out).mono ?_); (case side1 => repeat (first | exact (Kd.R_reads' HO171.out).2.2 | (with_reducible refine Kd.C_alloc ?_ _) | (with_reducible refine Kd.C_drewN ?_ _) | (with_reducible refine Kd.C_drew ?_))); (case side2 => exact (Kd.R_reads' HO171.out).2.1); rintro e w19 ⟨rfl, hb⟩; refine ⟨_, rfl, ?_⟩; have n0_ := Aside0.mk (Kd.R_below (by (with_reducible repeat (first | apply Kd.R_alloc | apply Kd.R_drewN | apply Kd.R_drew)); exact HO171.out) hb); have n1_ := Aside0.mk (bb BK166 hb); have n2_ := Aside0.mk (bb BK167 hb); have n3_ := Aside0.mk (bb BK168 hb); have n4_ := Aside0.mk (below_step (bw HB) hb); clear HO171; clear BK166; clear BK167; clear BK168; clear HB; have HO171 := n0_; have BK166 := n1_; have BK167 := n2_; have BK168 := n3_; have HB := n4_; clear n0_ n1_ n2_ n3_ n4_; (try clear hb); (try clear hb2); (try clear hk); (try clear hi); have hcz20_0 := bc BK166 0 rfl; have hcz20_1 := bc BK166 1 rfl; have hfz20_0 := blk_frozen BK166.out 0; have hfz20_1 := blk_frozen BK166.out 1; have hcz21_0 := bc BK167 0 rfl; have hcz21_1 := bc BK167 1 rfl; have hfz21_0 := blk_frozen BK167.out 0; have hfz21_1 := blk_frozen BK167.out 1; have hcz22_0 := bc BK168 0 rfl; have hcz22_1 := bc BK168 1 rfl; have hfz22_0 := blk_frozen BK168.out 0; have hfz22_1 := blk_frozen BK168.out 1))
   refine bodyPost_ret (results_ct rfl _ _ gb168 29 #[.int .i64 a3_0, .int .i64 a3_1] (0, 0) _ rfl (by (with_reducible repeat (first | refine blk_drewN ?_ _ | refine blk_drew ?_ | refine blk_alloc ?_ _)); refine blk_put (cs := #[.int .i64 a3_0, .int .i64 0]) ?_ 1 _ rfl; (with_reducible repeat (first | refine blk_drewN ?_ _ | refine blk_drew ?_ | refine blk_alloc ?_ _)); refine blk_put (cs := #[.int .i64 0, .int .i64 0]) ?_ 0 _ rfl; (with_reducible repeat (first | refine blk_drewN ?_ _ | refine blk_drew ?_ | refine blk_alloc ?_ _)); exact BK168.out) Try.underlying29 rfl (by kernel_rfl)) rfl ?_
   exact ⟨by first | rfl | (simp [errW_none, errW_some] <;> rfl) | (simp [*, errW_none, errW_some] <;> rfl), bw HB⟩
  ·rw [if_neg c7] at H
   have c7b0 : (a2_0 == 0) = false := beq_eq_false_iff_ne.mpr c7
   have c7b1 : (a2_0 != 0) = true := bne_iff_ne.mpr c7
   by_cases c23 : a3_0 = 0
   ·rw [if_pos c23] at H
    have c23b0 : (a3_0 == 0) = true := beq_iff_eq.mpr c23
    have c23b1 : (a3_0 != 0) = false := bne_eq_false_iff_eq.mpr c23
    clear c23
    simp only [Option.some.injEq, Prod.mk.injEq] at H
    obtain ⟨rfl, rfl, rfl⟩ := H
    go_enter Try.func21, Try.ntmps21
    go_wp2_with (first | ((with_reducible refine gate_dst (N := 6) rfl ?_); refine box_event ?hg (N := 6) ?hd (cs := #[.int .i64 a2_0, .int .i64 a2_1]) (t := 29) ?hr ?_; (case hd => rfl); (case hg => rfl); (case hr => first | (go_simp; done) | (go_simp; rfl)); intro gb166 hg w24 hbox hb; have n0_ := Aside0.mk (below_step (bw HB) hb); have n1_ := Aside0.mk (hbox); have n2_ := Aside0.mk (bs HB hg : w.heap.size ≤ gb166); have n3_ := Aside0.mk (bs HB hg : w.heap.size ≤ gb166); clear HB; have HB := n0_; have BK166 := n1_; have GW166 := n2_; have GE166 := n3_; clear n0_ n1_ n2_ n3_; clear hb hbox hg) | ((with_reducible refine gate_dst (N := 7) rfl ?_); refine box_event ?hg (N := 7) ?hd (cs := #[.int .i64 a3_0, .int .i64 a3_1]) (t := 29) ?hr ?_; (case hd => rfl); (case hg => rfl); (case hr => first | (go_simp; done) | (go_simp; rfl)); intro gb167 hg w25 hbox hb; have n0_ := Aside0.mk (bb BK166 hb); have n1_ := Aside0.mk (below_step (bw HB) hb); have n2_ := Aside0.mk (hbox); have n3_ := Aside0.mk (bs HB hg : w.heap.size ≤ gb167); have n4_ := Aside0.mk (bs HB hg : w.heap.size ≤ gb167); have n5_ := Aside0.mk (nl BK166 hg); have n6_ := Aside0.mk (ng BK166 hg); clear BK166; clear HB; have BK166 := n0_; have HB := n1_; have BK167 := n2_; have GW167 := n3_; have GE167 := n4_; have NB166_167 := n5_; have NB167_166 := n6_; clear n0_ n1_ n2_ n3_ n4_ n5_ n6_; clear hb hbox hg) | ((with_reducible refine gate_dst (N := 8) rfl ?_); refine box_event ?hg (N := 8) ?hd (cs := #[.int .i64 0, .int .i64 0]) (t := 29) ?hr ?_; (case hd => rfl); (case hg => rfl); (case hr => first | (go_simp; done) | (go_simp; rfl)); intro gb168 hg w26 hbox hb; have n0_ := Aside0.mk (bb BK166 hb); have n1_ := Aside0.mk (bb BK167 hb); have n2_ := Aside0.mk (below_step (bw HB) hb); have n3_ := Aside0.mk (hbox); have n4_ := Aside0.mk (bs HB hg : w.heap.size ≤ gb168); have n5_ := Aside0.mk (bs HB hg : w.heap.size ≤ gb168); have n6_ := Aside0.mk (nl BK166 hg); have n7_ := Aside0.mk (ng BK166 hg); have n8_ := Aside0.mk (nl BK167 hg); have n9_ := Aside0.mk (ng BK167 hg); clear BK166; clear BK167; clear HB; have BK166 := n0_; have BK167 := n1_; have HB := n2_; have BK168 := n3_; have GW168 := n4_; have GE168 := n5_; have NB166_168 := n6_; have NB168_166 := n7_; have NB167_168 := n8_; have NB168_167 := n9_; clear n0_ n1_ n2_ n3_ n4_ n5_ n6_ n7_ n8_ n9_; clear hb hbox hg; have hnb27 := NB166_167.out; have hnc27 := NB167_166.out; have hnb28 := NB166_168.out; have hnc28 := NB168_166.out; have hcz29_0 := bc BK166 0 rfl; have hcz29_1 := bc BK166 1 rfl; have hfz29_0 := blk_frozen BK166.out 0; have hfz29_1 := blk_frozen BK166.out 1; have hnb30 := NB167_168.out; have hnc30 := NB168_167.out; have hcz31_0 := bc BK167 0 rfl; have hcz31_1 := bc BK167 1 rfl; have hfz31_0 := blk_frozen BK167.out 0; have hfz31_1 := blk_frozen BK167.out 1) | ((with_reducible refine gate_dst (N := 17) rfl ?_); refine Kd.R_lit k29 _ 29 ?hg (N := 17) ?hd (xs := ([(⟨a2_0, a2_1⟩ : S29), (⟨a3_0, a3_1⟩ : S29)] : List (S29))) (inner := [.int .i64 a2_0, .int .i64 a2_1, .int .i64 a3_0, .int .i64 a3_1]) (ok := fun _ => True) (okp := fun _ => True) ?hr ?hp (fun _ hk => hk) trivial (Below.refl _ _) (Nat.le_refl _) (by simp) ?_; (case hd => rfl); (case hg => rfl); (case hr => first | (go_simp; done) | (go_simp; rfl)); (case hp => exact (Reps.c2 (show Kd.M k29 _ _ _ (⟨a2_0, a2_1⟩ : S29) [.int .i64 a2_0, .int .i64 a2_1] from (k29_mkM _ _ _ (⟨a2_0, a2_1⟩ : S29) )) (Reps.c2 (show Kd.M k29 _ _ _ (⟨a3_0, a3_1⟩ : S29) [.int .i64 a3_0, .int .i64 a3_1] from (k29_mkM _ _ _ (⟨a3_0, a3_1⟩ : S29) )) (Reps.none _ _)))); intro v170 w32 ho33 hb hg_ hnew_; clear hg_ hnew_; (first | rw [← Ny169.out] at ho33 | (simp only [Int.reduceToNat] at ho33; rw [← Ny169.out] at ho33)); have n0_ := Aside0.mk (Kd.R_lower (Kd.R_newB (Kd.R_newB (Kd.R_newB ho33 (g := gb166) (o := .cells #[.int .i64 a2_0, .int .i64 a2_1] 29 (0, 0)) (bk BK166)) (g := gb167) (o := .cells #[.int .i64 a3_0, .int .i64 a3_1] 29 (0, 0)) (bk BK167)) (g := gb168) (o := .cells #[.int .i64 0, .int .i64 0] 29 (0, 0)) (bk BK168)) (below_size (bw HB))); have n1_ := Aside0.mk (bb BK166 hb); have n2_ := Aside0.mk (bb BK167 hb); have n3_ := Aside0.mk (bb BK168 hb); have n4_ := Aside0.mk (below_step (bw HB) hb); clear BK166; clear BK167; clear BK168; clear HB; have HO171 := n0_; have BK166 := n1_; have BK167 := n2_; have BK168 := n3_; have HB := n4_; clear n0_ n1_ n2_ n3_ n4_; clear hb ho33; obtain ⟨Ao34, co34, eo34⟩ := Kd.R_slice HO171.out; subst eo34) | ((with_reducible refine gate_callee (f := 50) rfl ?_); refine goesL_ (some 18) rfl rfl Try.func50 (by kernel_rfl) rfl #[.int .i64 a0, .int .i64 a1, .slice Ao34 y169.length co34] rfl (by (try simp only [List.map_toArray, List.map_cons, List.map_nil]); first | done | rfl | (simp only [List.length_drop, List.length_take]; rfl)) ?_; (with_reducible refine (reals_check.calls k a0 a1 _ _ y169 t172 t173 _ ?side1 ?side2 A5.out).mono ?_); (case side1 => repeat (first | exact (Kd.R_reads' HO171.out).2.2 | (with_reducible refine Kd.C_alloc ?_ _) | (with_reducible refine Kd.C_drewN ?_ _) | (with_reducible refine Kd.C_drew ?_))); (case side2 => exact (Kd.R_reads' HO171.out).2.1); rintro e w35 ⟨rfl, hb⟩; refine ⟨_, rfl, ?_⟩; have n0_ := Aside0.mk (Kd.R_below (by (with_reducible repeat (first | apply Kd.R_alloc | apply Kd.R_drewN | apply Kd.R_drew)); exact HO171.out) hb); have n1_ := Aside0.mk (bb BK166 hb); have n2_ := Aside0.mk (bb BK167 hb); have n3_ := Aside0.mk (bb BK168 hb); have n4_ := Aside0.mk (below_step (bw HB) hb); clear HO171; clear BK166; clear BK167; clear BK168; clear HB; have HO171 := n0_; have BK166 := n1_; have BK167 := n2_; have BK168 := n3_; have HB := n4_; clear n0_ n1_ n2_ n3_ n4_; (try clear hb); (try clear hb2); (try clear hk); (try clear hi); have hcz36_0 := bc BK166 0 rfl; have hcz36_1 := bc BK166 1 rfl; have hfz36_0 := blk_frozen BK166.out 0; have hfz36_1 := blk_frozen BK166.out 1; have hcz37_0 := bc BK167 0 rfl; have hcz37_1 := bc BK167 1 rfl; have hfz37_0 := blk_frozen BK167.out 0; have hfz37_1 := blk_frozen BK167.out 1; have hcz38_0 := bc BK168 0 rfl; have hcz38_1 := bc BK168 1 rfl; have hfz38_0 := blk_frozen BK168.out 0; have hfz38_1 := blk_frozen BK168.out 1))
    refine bodyPost_ret (results_ct rfl _ _ gb168 29 #[.int .i64 a2_0, .int .i64 a2_1] (0, 0) _ rfl (by (with_reducible repeat (first | refine blk_drewN ?_ _ | refine blk_drew ?_ | refine blk_alloc ?_ _)); refine blk_put (cs := #[.int .i64 a2_0, .int .i64 0]) ?_ 1 _ rfl; (with_reducible repeat (first | refine blk_drewN ?_ _ | refine blk_drew ?_ | refine blk_alloc ?_ _)); refine blk_put (cs := #[.int .i64 0, .int .i64 0]) ?_ 0 _ rfl; (with_reducible repeat (first | refine blk_drewN ?_ _ | refine blk_drew ?_ | refine blk_alloc ?_ _)); exact BK168.out) Try.underlying29 rfl (by kernel_rfl)) rfl ?_
    exact ⟨by first | rfl | (simp [errW_none, errW_some] <;> rfl) | (simp [*, errW_none, errW_some] <;> rfl), bw HB⟩
   ·rw [if_neg c23] at H
    have c23b0 : (a3_0 == 0) = false := beq_eq_false_iff_ne.mpr c23
    have c23b1 : (a3_0 != 0) = true := bne_iff_ne.mpr c23
    have HC39 := Aside0.mk H
    clear H
    go_enter Try.func21, Try.ntmps21
    go_upto_if 37 with (first | ((with_reducible refine gate_dst (N := 6) rfl ?_); refine box_event ?hg (N := 6) ?hd (cs := #[.int .i64 a2_0, .int .i64 a2_1]) (t := 29) ?hr ?_; (case hd => rfl); (case hg => rfl); (case hr => first | (go_simp; done) | (go_simp; rfl)); intro gb166 hg w40 hbox hb; have n0_ := Aside0.mk (below_step (bw HB) hb); have n1_ := Aside0.mk (hbox); have n2_ := Aside0.mk (bs HB hg : w.heap.size ≤ gb166); have n3_ := Aside0.mk (bs HB hg : w.heap.size ≤ gb166); clear HB; have HB := n0_; have BK166 := n1_; have GW166 := n2_; have GE166 := n3_; clear n0_ n1_ n2_ n3_; clear hb hbox hg) | ((with_reducible refine gate_dst (N := 7) rfl ?_); refine box_event ?hg (N := 7) ?hd (cs := #[.int .i64 a3_0, .int .i64 a3_1]) (t := 29) ?hr ?_; (case hd => rfl); (case hg => rfl); (case hr => first | (go_simp; done) | (go_simp; rfl)); intro gb167 hg w41 hbox hb; have n0_ := Aside0.mk (bb BK166 hb); have n1_ := Aside0.mk (below_step (bw HB) hb); have n2_ := Aside0.mk (hbox); have n3_ := Aside0.mk (bs HB hg : w.heap.size ≤ gb167); have n4_ := Aside0.mk (bs HB hg : w.heap.size ≤ gb167); have n5_ := Aside0.mk (nl BK166 hg); have n6_ := Aside0.mk (ng BK166 hg); clear BK166; clear HB; have BK166 := n0_; have HB := n1_; have BK167 := n2_; have GW167 := n3_; have GE167 := n4_; have NB166_167 := n5_; have NB167_166 := n6_; clear n0_ n1_ n2_ n3_ n4_ n5_ n6_; clear hb hbox hg) | ((with_reducible refine gate_dst (N := 8) rfl ?_); refine box_event ?hg (N := 8) ?hd (cs := #[.int .i64 0, .int .i64 0]) (t := 29) ?hr ?_; (case hd => rfl); (case hg => rfl); (case hr => first | (go_simp; done) | (go_simp; rfl)); intro gb168 hg w42 hbox hb; have n0_ := Aside0.mk (bb BK166 hb); have n1_ := Aside0.mk (bb BK167 hb); have n2_ := Aside0.mk (below_step (bw HB) hb); have n3_ := Aside0.mk (hbox); have n4_ := Aside0.mk (bs HB hg : w.heap.size ≤ gb168); have n5_ := Aside0.mk (bs HB hg : w.heap.size ≤ gb168); have n6_ := Aside0.mk (nl BK166 hg); have n7_ := Aside0.mk (ng BK166 hg); have n8_ := Aside0.mk (nl BK167 hg); have n9_ := Aside0.mk (ng BK167 hg); clear BK166; clear BK167; clear HB; have BK166 := n0_; have BK167 := n1_; have HB := n2_; have BK168 := n3_; have GW168 := n4_; have GE168 := n5_; have NB166_168 := n6_; have NB168_166 := n7_; have NB167_168 := n8_; have NB168_167 := n9_; clear n0_ n1_ n2_ n3_ n4_ n5_ n6_ n7_ n8_ n9_; clear hb hbox hg; have hnb43 := NB166_167.out; have hnc43 := NB167_166.out; have hnb44 := NB166_168.out; have hnc44 := NB168_166.out; have hcz45_0 := bc BK166 0 rfl; have hcz45_1 := bc BK166 1 rfl; have hfz45_0 := blk_frozen BK166.out 0; have hfz45_1 := blk_frozen BK166.out 1; have hnb46 := NB167_168.out; have hnc46 := NB168_167.out; have hcz47_0 := bc BK167 0 rfl; have hcz47_1 := bc BK167 1 rfl; have hfz47_0 := blk_frozen BK167.out 0; have hfz47_1 := blk_frozen BK167.out 1) | ((with_reducible refine gate_dst (N := 17) rfl ?_); refine Kd.R_lit k29 _ 29 ?hg (N := 17) ?hd (xs := ([(⟨a2_0, a2_1⟩ : S29), (⟨a3_0, a3_1⟩ : S29)] : List (S29))) (inner := [.int .i64 a2_0, .int .i64 a2_1, .int .i64 a3_0, .int .i64 a3_1]) (ok := fun _ => True) (okp := fun _ => True) ?hr ?hp (fun _ hk => hk) trivial (Below.refl _ _) (Nat.le_refl _) (by simp) ?_; (case hd => rfl); (case hg => rfl); (case hr => first | (go_simp; done) | (go_simp; rfl)); (case hp => exact (Reps.c2 (show Kd.M k29 _ _ _ (⟨a2_0, a2_1⟩ : S29) [.int .i64 a2_0, .int .i64 a2_1] from (k29_mkM _ _ _ (⟨a2_0, a2_1⟩ : S29) )) (Reps.c2 (show Kd.M k29 _ _ _ (⟨a3_0, a3_1⟩ : S29) [.int .i64 a3_0, .int .i64 a3_1] from (k29_mkM _ _ _ (⟨a3_0, a3_1⟩ : S29) )) (Reps.none _ _)))); intro v170 w48 ho49 hb hg_ hnew_; clear hg_ hnew_; (first | rw [← Ny169.out] at ho49 | (simp only [Int.reduceToNat] at ho49; rw [← Ny169.out] at ho49)); have n0_ := Aside0.mk (Kd.R_lower (Kd.R_newB (Kd.R_newB (Kd.R_newB ho49 (g := gb166) (o := .cells #[.int .i64 a2_0, .int .i64 a2_1] 29 (0, 0)) (bk BK166)) (g := gb167) (o := .cells #[.int .i64 a3_0, .int .i64 a3_1] 29 (0, 0)) (bk BK167)) (g := gb168) (o := .cells #[.int .i64 0, .int .i64 0] 29 (0, 0)) (bk BK168)) (below_size (bw HB))); have n1_ := Aside0.mk (bb BK166 hb); have n2_ := Aside0.mk (bb BK167 hb); have n3_ := Aside0.mk (bb BK168 hb); have n4_ := Aside0.mk (below_step (bw HB) hb); clear BK166; clear BK167; clear BK168; clear HB; have HO171 := n0_; have BK166 := n1_; have BK167 := n2_; have BK168 := n3_; have HB := n4_; clear n0_ n1_ n2_ n3_ n4_; clear hb ho49; obtain ⟨Ao50, co50, eo50⟩ := Kd.R_slice HO171.out; subst eo50) | ((with_reducible refine gate_callee (f := 50) rfl ?_); refine goesL_ (some 18) rfl rfl Try.func50 (by kernel_rfl) rfl #[.int .i64 a0, .int .i64 a1, .slice Ao50 y169.length co50] rfl (by (try simp only [List.map_toArray, List.map_cons, List.map_nil]); first | done | rfl | (simp only [List.length_drop, List.length_take]; rfl)) ?_; (with_reducible refine (reals_check.calls k a0 a1 _ _ y169 t172 t173 _ ?side1 ?side2 A5.out).mono ?_); (case side1 => repeat (first | exact (Kd.R_reads' HO171.out).2.2 | (with_reducible refine Kd.C_alloc ?_ _) | (with_reducible refine Kd.C_drewN ?_ _) | (with_reducible refine Kd.C_drew ?_))); (case side2 => exact (Kd.R_reads' HO171.out).2.1); rintro e w51 ⟨rfl, hb⟩; refine ⟨_, rfl, ?_⟩; have n0_ := Aside0.mk (Kd.R_below (by (with_reducible repeat (first | apply Kd.R_alloc | apply Kd.R_drewN | apply Kd.R_drew)); exact HO171.out) hb); have n1_ := Aside0.mk (bb BK166 hb); have n2_ := Aside0.mk (bb BK167 hb); have n3_ := Aside0.mk (bb BK168 hb); have n4_ := Aside0.mk (below_step (bw HB) hb); clear HO171; clear BK166; clear BK167; clear BK168; clear HB; have HO171 := n0_; have BK166 := n1_; have BK167 := n2_; have BK168 := n3_; have HB := n4_; clear n0_ n1_ n2_ n3_ n4_; (try clear hb); (try clear hb2); (try clear hk); (try clear hi); have hcz52_0 := bc BK166 0 rfl; have hcz52_1 := bc BK166 1 rfl; have hfz52_0 := blk_frozen BK166.out 0; have hfz52_1 := blk_frozen BK166.out 1; have hcz53_0 := bc BK167 0 rfl; have hcz53_1 := bc BK167 1 rfl; have hfz53_0 := blk_frozen BK167.out 0; have hfz53_1 := blk_frozen BK167.out 1))
    (try simp only [Act.put, List.setIfInBounds_toArray, List.set_cons_zero, List.set_cons_succ])
    go_cut [] (fun wc => ∃ (kq : Nat) (x167000_38 : Int) (x167001_38 : Int) (x168000_38 : Int) (x168001_38 : Int), Aside0 (reals_Add.j0 kq a1 t172 x167000_38 x167001_38 x168000_38 x168001_38 = some (r1, r2, r3)) ∧ Aside0 (kq ≤ k) ∧ Aside0 (wc.heap[gb166]? = some (.cells #[.int .i64 x167000_38, .int .i64 x167001_38] 29 (0, 0))) ∧ Aside0 (wc.heap[gb167]? = some (.cells #[.int .i64 x168000_38, .int .i64 x168001_38] 29 (0, 0))) ∧ Aside0 (wc.heap[gb168]? = some (.cells #[.int .i64 0, .int .i64 0] 29 (0, 0))) ∧ Aside0 (Below w.heap.size w wc))
    case first =>
     have H := HC39.out
     clear HC39
     by_cases c54 : a2_1 < a3_1
     ·rw [if_pos c54] at H
      have c54b0 : decide (a2_1 < a3_1) = true := decide_eq_true c54
      clear c54
      (first | rw [c54b0] | (simp only [i64_w, i32_w]; rw [c54b0]) | skip)
      have H' := Aside0.mk H
      clear H
      have hnb55 := NB167_166.out
      have hnc55 := NB166_167.out
      have hnb56 := NB167_168.out
      have hnc56 := NB168_167.out
      have hcz57_0 := bc BK167 0 rfl
      have hcz57_1 := bc BK167 1 rfl
      have hfz57_0 := blk_frozen BK167.out 0
      have hfz57_1 := blk_frozen BK167.out 1
      have hnb58 := NB166_168.out
      have hnc58 := NB168_166.out
      have hcz59_0 := bc BK166 0 rfl
      have hcz59_1 := bc BK166 1 rfl
      have hfz59_0 := blk_frozen BK166.out 0
      have hfz59_1 := blk_frozen BK166.out 1
      go_wp2
      go_meet
      case rel => exact ⟨_, (a3_0), (a3_1), (a2_0), (a2_1), H', ⟨by first | omega | exact Nat.le_refl _⟩, ⟨by (with_reducible repeat (first | refine blk_drewN ?_ _ | refine blk_drew ?_ | refine blk_alloc ?_ _)); refine blk_far ?_ NB166_167.out _; (with_reducible repeat (first | refine blk_drewN ?_ _ | refine blk_drew ?_ | refine blk_alloc ?_ _)); refine blk_far ?_ NB166_167.out _; (with_reducible repeat (first | refine blk_drewN ?_ _ | refine blk_drew ?_ | refine blk_alloc ?_ _)); refine blk_put (cs := #[.int .i64 a3_0, .int .i64 a2_1]) ?_ 1 _ rfl; (with_reducible repeat (first | refine blk_drewN ?_ _ | refine blk_drew ?_ | refine blk_alloc ?_ _)); refine blk_put (cs := #[.int .i64 a2_0, .int .i64 a2_1]) ?_ 0 _ rfl; (with_reducible repeat (first | refine blk_drewN ?_ _ | refine blk_drew ?_ | refine blk_alloc ?_ _)); exact BK166.out⟩, ⟨by (with_reducible repeat (first | refine blk_drewN ?_ _ | refine blk_drew ?_ | refine blk_alloc ?_ _)); refine blk_put (cs := #[.int .i64 a2_0, .int .i64 a3_1]) ?_ 1 _ rfl; (with_reducible repeat (first | refine blk_drewN ?_ _ | refine blk_drew ?_ | refine blk_alloc ?_ _)); refine blk_put (cs := #[.int .i64 a3_0, .int .i64 a3_1]) ?_ 0 _ rfl; (with_reducible repeat (first | refine blk_drewN ?_ _ | refine blk_drew ?_ | refine blk_alloc ?_ _)); refine blk_far ?_ NB167_166.out _; (with_reducible repeat (first | refine blk_drewN ?_ _ | refine blk_drew ?_ | refine blk_alloc ?_ _)); refine blk_far ?_ NB167_166.out _; (with_reducible repeat (first | refine blk_drewN ?_ _ | refine blk_drew ?_ | refine blk_alloc ?_ _)); exact BK167.out⟩, ⟨by (with_reducible repeat (first | refine blk_drewN ?_ _ | refine blk_drew ?_ | refine blk_alloc ?_ _)); refine blk_far ?_ NB168_167.out _; (with_reducible repeat (first | refine blk_drewN ?_ _ | refine blk_drew ?_ | refine blk_alloc ?_ _)); refine blk_far ?_ NB168_167.out _; (with_reducible repeat (first | refine blk_drewN ?_ _ | refine blk_drew ?_ | refine blk_alloc ?_ _)); refine blk_far ?_ NB168_166.out _; (with_reducible repeat (first | refine blk_drewN ?_ _ | refine blk_drew ?_ | refine blk_alloc ?_ _)); refine blk_far ?_ NB168_166.out _; (with_reducible repeat (first | refine blk_drewN ?_ _ | refine blk_drew ?_ | refine blk_alloc ?_ _)); exact BK168.out⟩, ⟨bw HB⟩⟩
     ·rw [if_neg c54] at H
      have c54b0 : decide (a2_1 < a3_1) = false := decide_eq_false c54
      clear c54
      (first | rw [c54b0] | (simp only [i64_w, i32_w]; rw [c54b0]) | skip)
      have H' := Aside0.mk H
      clear H
      go_wp2
      go_meet
      case rel => exact ⟨_, (a2_0), (a2_1), (a3_0), (a3_1), H', ⟨by first | omega | exact Nat.le_refl _⟩, ⟨by (with_reducible repeat (first | refine blk_drewN ?_ _ | refine blk_drew ?_ | refine blk_alloc ?_ _)); exact BK166.out⟩, ⟨by (with_reducible repeat (first | refine blk_drewN ?_ _ | refine blk_drew ?_ | refine blk_alloc ?_ _)); exact BK167.out⟩, ⟨by (with_reducible repeat (first | refine blk_drewN ?_ _ | refine blk_drew ?_ | refine blk_alloc ?_ _)); exact BK168.out⟩, ⟨bw HB⟩⟩
    case rest =>
     clear HC39
     try clear c1
     try clear c2
     try clear p2
     try clear c3
     try clear c4
     try clear c5
     try clear c6
     try clear c6b0
     try clear c6b1
     try clear c7
     try clear c7b0
     try clear c7b1
     try clear c11
     try clear c12
     try clear c14
     try clear c21
     try clear c23
     try clear c23b0
     try clear c23b1
     try clear c27
     try clear c28
     try clear c30
     try clear c43
     try clear c44
     try clear c46
     try clear c50
     try clear c54
     try clear c54b0
     try clear c55
     try clear c56
     try clear c58
     try clear hcz13_0
     try clear hcz13_1
     try clear hcz15_0
     try clear hcz15_1
     try clear hcz20_0
     try clear hcz20_1
     try clear hcz21_0
     try clear hcz21_1
     try clear hcz22_0
     try clear hcz22_1
     try clear hcz29_0
     try clear hcz29_1
     try clear hcz31_0
     try clear hcz31_1
     try clear hcz36_0
     try clear hcz36_1
     try clear hcz37_0
     try clear hcz37_1
     try clear hcz38_0
     try clear hcz38_1
     try clear hcz45_0
     try clear hcz45_1
     try clear hcz47_0
     try clear hcz47_1
     try clear hcz52_0
     try clear hcz52_1
     try clear hcz53_0
     try clear hcz53_1
     try clear hcz57_0
     try clear hcz57_1
     try clear hcz59_0
     try clear hcz59_1
     try clear hfz13_0
     try clear hfz13_1
     try clear hfz15_0
     try clear hfz15_1
     try clear hfz20_0
     try clear hfz20_1
     try clear hfz21_0
     try clear hfz21_1
     try clear hfz22_0
     try clear hfz22_1
     try clear hfz29_0
     try clear hfz29_1
     try clear hfz31_0
     try clear hfz31_1
     try clear hfz36_0
     try clear hfz36_1
     try clear hfz37_0
     try clear hfz37_1
     try clear hfz38_0
     try clear hfz38_1
     try clear hfz45_0
     try clear hfz45_1
     try clear hfz47_0
     try clear hfz47_1
     try clear hfz52_0
     try clear hfz52_1
     try clear hfz53_0
     try clear hfz53_1
     try clear hfz57_0
     try clear hfz57_1
     try clear hfz59_0
     try clear hfz59_1
     obtain ⟨kq, x167000_38, x167001_38, x168000_38, x168001_38, HA, HJ38, BK166, BK167, BK168, HB⟩ := hcut
     cases kq with
     | zero => exact absurd HA.out (by simp [reals_Add.j0])
     | succ kj38 =>
      have H := HA.out
      clear HA
      simp only [reals_Add.j0] at H
      replace H := Option.bind_eq_some_iff.mp H
      obtain ⟨⟨t174, t175, t176, t177, t178⟩, A600, H⟩ := H
      replace H : ((reals_of.f x168000_38 x168001_38).bind fun bt179 => ((reals_sum.f t174 t175 t176 t177 t178 bt179.1 bt179.2.1 bt179.2.2.1 bt179.2.2.2.1 bt179.2.2.2.2).bind fun bt184 => ((reals_exact_round.f kj38 bt184.1 bt184.2.1 bt184.2.2.1 bt184.2.2.2.1 bt184.2.2.2.2 t172 a1).bind fun bt189 => (some (bt189.1, bt189.2.1, bt189.2.2))))) = some (r1, r2, r3) := H
      have A60 := Aside0.mk A600
      clear A600
      replace H := Option.bind_eq_some_iff.mp H
      obtain ⟨⟨t179, t180, t181, t182, t183⟩, A610, H⟩ := H
      replace H : ((reals_sum.f t174 t175 t176 t177 t178 t179 t180 t181 t182 t183).bind fun bt184 => ((reals_exact_round.f kj38 bt184.1 bt184.2.1 bt184.2.2.1 bt184.2.2.2.1 bt184.2.2.2.2 t172 a1).bind fun bt189 => (some (bt189.1, bt189.2.1, bt189.2.2)))) = some (r1, r2, r3) := H
      have A61 := Aside0.mk A610
      clear A610
      replace H := Option.bind_eq_some_iff.mp H
      obtain ⟨⟨t184, t185, t186, t187, t188⟩, A620, H⟩ := H
      replace H : ((reals_exact_round.f kj38 t184 t185 t186 t187 t188 t172 a1).bind fun bt189 => (some (bt189.1, bt189.2.1, bt189.2.2))) = some (r1, r2, r3) := H
      have A62 := Aside0.mk A620
      clear A620
      replace H := Option.bind_eq_some_iff.mp H
      obtain ⟨⟨t189, t190, t191⟩, A630, H⟩ := H
      replace H : (some (t189, t190, t191)) = some (r1, r2, r3) := H
      have A63 := Aside0.mk A630
      clear A630
      simp only [Option.some.injEq, Prod.mk.injEq] at H
      obtain ⟨rfl, rfl, rfl⟩ := H
      try go_wp2
      have n0_ := Aside0.mk (blk_drew BK166.out)
      have n1_ := Aside0.mk (blk_drew BK167.out)
      have n2_ := Aside0.mk (blk_drew BK168.out)
      have n3_ := Aside0.mk (below_drew1 HB.out)
      clear BK166
      clear BK167
      clear BK168
      clear HB
      have BK166 := n0_
      have BK167 := n1_
      have BK168 := n2_
      have HB := n3_
      clear n0_ n1_ n2_ n3_
      refine start_ (n := 12) (S := fun w' => w'.cell? ⟨gb166, 0, none⟩ = some (.int .i64 x167000_38) ∧ w'.cell? ⟨gb166, 1, none⟩ = some (.int .i64 x167001_38) ∧ w'.cell? ⟨gb167, 0, none⟩ = some (.int .i64 x168000_38) ∧ w'.cell? ⟨gb167, 1, none⟩ = some (.int .i64 x168001_38)) (ds := []) #[false, false, false, false, false, false, false, false, false, false, false, false] (by kernel_rfl) rfl rfl ⟨(blk_cell BK166.out 0).trans rfl, (blk_cell BK166.out 1).trans rfl, (blk_cell BK167.out 0).trans rfl, (blk_cell BK167.out 1).trans rfl⟩ (fun hHeld => ?_); refine with_tabW reals_Add.tab10 reals_Add.bits10 (fun HT_ HW_ => ?_)
      generalize wc.drew = w64 at BK166 BK167 BK168 HB hHeld ⊢
      refine pure_ (i := 5) (N := some 45) (v := ?_) (a' := ?_) #[false, false, false, false, false, true, false, false, false, false, false, false] rfl rfl (any_of HT_.out (by kernel_rfl)) (fun _ _ _ h => h) (Or.inl ⟨by rfl, ?_⟩) ?_ ?_
      rotate_left
      ·intro w'
       go_simp
       with_reducible rfl
      rotate_left
      ·simp only [Act.put, List.setIfInBounds_toArray, List.set_cons_zero, List.set_cons_succ, i64_w, i32_w]
       rfl
      refine pure_ (i := 6) (N := some 46) (v := ?_) (a' := ?_) #[false, false, false, false, false, true, true, false, false, false, false, false] rfl rfl (any_of HT_.out (by kernel_rfl)) (fun _ _ _ h => h) (Or.inl ⟨by rfl, ?_⟩) ?_ ?_
      rotate_left
      ·intro w'
       go_simp
       with_reducible rfl
      rotate_left
      ·simp only [Act.put, List.setIfInBounds_toArray, List.set_cons_zero, List.set_cons_succ, i64_w, i32_w]
       rfl
      refine take_ (i := 0) (N := some 40) (v := ?_) (a' := ?_) #[true, false, false, false, false, true, true, false, false, false, false, false] rfl rfl (take_ofW HT_.out HW_.out (by kernel_rfl)) (fun _ _ _ h => h) (Or.inl ⟨by rfl, ?_⟩) hHeld ?_ ?_
      rotate_left
      ·rintro w' ⟨s0, s1, s2, s3⟩
       go_simp
       with_reducible rfl
      rotate_left
      ·simp only [Act.put, List.setIfInBounds_toArray, List.set_cons_zero, List.set_cons_succ, i64_w, i32_w]
       rfl
      refine take_ (i := 2) (N := some 42) (v := ?_) (a' := ?_) #[true, false, true, false, false, true, true, false, false, false, false, false] rfl rfl (take_ofW HT_.out HW_.out (by kernel_rfl)) (fun _ _ _ h => h) (Or.inl ⟨by rfl, ?_⟩) hHeld ?_ ?_
      rotate_left
      ·rintro w' ⟨s0, s1, s2, s3⟩
       go_simp
       with_reducible rfl
      rotate_left
      ·simp only [Act.put, List.setIfInBounds_toArray, List.set_cons_zero, List.set_cons_succ, i64_w, i32_w]
       rfl
      refine one_ (i := 1) (N := some 41) #[true, true, true, false, false, true, true, false, false, false, false, false] rfl rfl (one_of HT_.out (by kernel_rfl)) (by decide) (fun K hK => ?_)
      refine goes_ Try.func51 (by kernel_rfl) rfl #[.agg #[.int .i64 x167000_38, .int .i64 x167001_38]] (by rfl) rfl rfl (by (try simp only [List.map_toArray, List.map_cons, List.map_nil]); first | done | rfl | (simp only [List.length_drop, List.length_take]; rfl)) ?_
      with_reducible refine (reals_of.calls x167000_38 x167001_38 t174 t175 t176 t177 t178 _ A60.out).mono ?_
      rintro e w65 ⟨rfl, hb⟩
      refine ⟨_, rfl, ?_⟩
      have n0_ := Aside0.mk (bb BK166 hb)
      have n1_ := Aside0.mk (bb BK167 hb)
      have n2_ := Aside0.mk (bb BK168 hb)
      have n3_ := Aside0.mk (below_step (bw HB) hb)
      clear BK166
      clear BK167
      clear BK168
      clear HB
      have BK166 := n0_
      have BK167 := n1_
      have BK168 := n2_
      have HB := n3_
      clear n0_ n1_ n2_ n3_
      (try clear hb)
      (try clear hb2)
      (try clear hk)
      (try clear hi)
      refine hK.out _ _ ⟨(blk_cell BK166.out 0).trans rfl, (blk_cell BK166.out 1).trans rfl, (blk_cell BK167.out 0).trans rfl, (blk_cell BK167.out 1).trans rfl⟩ (fun hHeld => ?_)
      clear hK K
      refine norm_ (a' := ?_) ?_ ?_
      rotate_left
      ·show Act.put _ (some 41) _ = _
       simp only [Act.put, List.setIfInBounds_toArray, List.set_cons_zero, List.set_cons_succ, i64_w, i32_w]
       rfl
      refine one_ (i := 3) (N := some 43) #[true, true, true, true, false, true, true, false, false, false, false, false] rfl rfl (one_of HT_.out (by kernel_rfl)) (by decide) (fun K hK => ?_)
      refine goes_ Try.func51 (by kernel_rfl) rfl #[.agg #[.int .i64 x168000_38, .int .i64 x168001_38]] (by rfl) rfl rfl (by (try simp only [List.map_toArray, List.map_cons, List.map_nil]); first | done | rfl | (simp only [List.length_drop, List.length_take]; rfl)) ?_
      with_reducible refine (reals_of.calls x168000_38 x168001_38 t179 t180 t181 t182 t183 _ A61.out).mono ?_
      rintro e w66 ⟨rfl, hb⟩
      refine ⟨_, rfl, ?_⟩
      have n0_ := Aside0.mk (bb BK166 hb)
      have n1_ := Aside0.mk (bb BK167 hb)
      have n2_ := Aside0.mk (bb BK168 hb)
      have n3_ := Aside0.mk (below_step (bw HB) hb)
      clear BK166
      clear BK167
      clear BK168
      clear HB
      have BK166 := n0_
      have BK167 := n1_
      have BK168 := n2_
      have HB := n3_
      clear n0_ n1_ n2_ n3_
      (try clear hb)
      (try clear hb2)
      (try clear hk)
      (try clear hi)
      refine hK.out _ _ ⟨(blk_cell BK166.out 0).trans rfl, (blk_cell BK166.out 1).trans rfl, (blk_cell BK167.out 0).trans rfl, (blk_cell BK167.out 1).trans rfl⟩ (fun hHeld => ?_)
      clear hK K
      refine norm_ (a' := ?_) ?_ ?_
      rotate_left
      ·show Act.put _ (some 43) _ = _
       simp only [Act.put, List.setIfInBounds_toArray, List.set_cons_zero, List.set_cons_succ, i64_w, i32_w]
       rfl
      refine one_ (i := 4) (N := some 44) #[true, true, true, true, true, true, true, false, false, false, false, false] rfl rfl (one_of HT_.out (by kernel_rfl)) (by decide) (fun K hK => ?_)
      refine goes_ Try.func56 (by kernel_rfl) rfl #[.agg #[.bool t174, .int .u64 t175, .int .u64 t176, .int .i64 t177, .bool t178], .agg #[.bool t179, .int .u64 t180, .int .u64 t181, .int .i64 t182, .bool t183]] (by rfl) rfl rfl (by (try simp only [List.map_toArray, List.map_cons, List.map_nil]); first | done | rfl | (simp only [List.length_drop, List.length_take]; rfl)) ?_
      with_reducible refine (reals_sum.calls t174 t175 t176 t177 t178 t179 t180 t181 t182 t183 t184 t185 t186 t187 t188 _ A62.out).mono ?_
      rintro e w67 ⟨rfl, hb⟩
      refine ⟨_, rfl, ?_⟩
      have n0_ := Aside0.mk (bb BK166 hb)
      have n1_ := Aside0.mk (bb BK167 hb)
      have n2_ := Aside0.mk (bb BK168 hb)
      have n3_ := Aside0.mk (below_step (bw HB) hb)
      clear BK166
      clear BK167
      clear BK168
      clear HB
      have BK166 := n0_
      have BK167 := n1_
      have BK168 := n2_
      have HB := n3_
      clear n0_ n1_ n2_ n3_
      (try clear hb)
      (try clear hb2)
      (try clear hk)
      (try clear hi)
      refine hK.out _ _ ⟨(blk_cell BK166.out 0).trans rfl, (blk_cell BK166.out 1).trans rfl, (blk_cell BK167.out 0).trans rfl, (blk_cell BK167.out 1).trans rfl⟩ (fun hHeld => ?_)
      clear hK K
      refine norm_ (a' := ?_) ?_ ?_
      rotate_left
      ·show Act.put _ (some 44) _ = _
       simp only [Act.put, List.setIfInBounds_toArray, List.set_cons_zero, List.set_cons_succ, i64_w, i32_w]
       rfl
      refine one_ (i := 7) (N := some 47) #[true, true, true, true, true, true, true, true, false, false, false, false] rfl rfl (one_of HT_.out (by kernel_rfl)) (by decide) (fun K hK => ?_)
      refine goes_ Try.func52 (by kernel_rfl) rfl #[.agg #[.bool t184, .int .u64 t185, .int .u64 t186, .int .i64 t187, .bool t188], .int .i64 t172, .int .i64 a1] (by rfl) rfl rfl (by (try simp only [List.map_toArray, List.map_cons, List.map_nil]); first | done | rfl | (simp only [List.length_drop, List.length_take]; rfl)) ?_
      with_reducible refine (reals_exact_round.calls kj38 t184 t185 t186 t187 t188 t172 a1 t189 t190 t191 _ A63.out).mono ?_
      rintro e w68 ⟨rfl, hb⟩
      refine ⟨_, rfl, ?_⟩
      have n0_ := Aside0.mk (bb BK166 hb)
      have n1_ := Aside0.mk (bb BK167 hb)
      have n2_ := Aside0.mk (bb BK168 hb)
      have n3_ := Aside0.mk (below_step (bw HB) hb)
      clear BK166
      clear BK167
      clear BK168
      clear HB
      have BK166 := n0_
      have BK167 := n1_
      have BK168 := n2_
      have HB := n3_
      clear n0_ n1_ n2_ n3_
      (try clear hb)
      (try clear hb2)
      (try clear hk)
      (try clear hi)
      refine hK.out _ _ ⟨(blk_cell BK166.out 0).trans rfl, (blk_cell BK166.out 1).trans rfl, (blk_cell BK167.out 0).trans rfl, (blk_cell BK167.out 1).trans rfl⟩ (fun hHeld => ?_)
      clear hK K
      refine norm_ (a' := ?_) ?_ ?_
      rotate_left
      ·show Act.put _ (some 47) _ = _
       simp only [Act.put, List.setIfInBounds_toArray, List.set_cons_zero, List.set_cons_succ, i64_w, i32_w]
       rfl
      refine pure_ (i := 8) (N := some 48) (v := ?_) (a' := ?_) #[true, true, true, true, true, true, true, true, true, false, false, false] rfl rfl (any_of HT_.out (by kernel_rfl)) (fun _ _ _ h => h) (Or.inl ⟨by rfl, ?_⟩) ?_ ?_
      rotate_left
      ·intro w'
       go_simp
       with_reducible rfl
      rotate_left
      ·simp only [Act.put, List.setIfInBounds_toArray, List.set_cons_zero, List.set_cons_succ, i64_w, i32_w]
       rfl
      refine pure_ (i := 9) (N := some 49) (v := ?_) (a' := ?_) #[true, true, true, true, true, true, true, true, true, true, false, false] rfl rfl (any_of HT_.out (by kernel_rfl)) (fun _ _ _ h => h) (Or.inl ⟨by rfl, ?_⟩) ?_ ?_
      rotate_left
      ·intro w'
       go_simp
       with_reducible rfl
      rotate_left
      ·simp only [Act.put, List.setIfInBounds_toArray, List.set_cons_zero, List.set_cons_succ, i64_w, i32_w]
       rfl
      refine one_ (i := 10) (N := none) #[true, true, true, true, true, true, true, true, true, true, true, false] rfl rfl (one_of HT_.out (by kernel_rfl)) (by decide) (fun K hK => ?_)
      have hs69 : w68.cell? ⟨gb168, 0, none⟩ = some (.int .i64 0) := (blk_cell BK168.out 0).trans rfl
      have hfs69 := blk_frozen BK168.out 0
      have hns69_0 := NB166_168.out
      have hns69_1 := NB167_168.out
      have hms69_0 := NB168_166.out
      have hms69_1 := NB168_167.out
      have hs70 : w68.cell? ⟨gb168, 1, none⟩ = some (.int .i64 0) := (blk_cell BK168.out 1).trans rfl
      have hfs70 := blk_frozen BK168.out 1
      have hns70_0 := NB166_168.out
      have hns70_1 := NB167_168.out
      have hms70_0 := NB168_166.out
      have hms70_1 := NB168_167.out
      refine skip_ (w1 := ?_) (by rfl) rfl ?_ ?_
      rotate_left
      ·go_simp
       rfl
      refine hK.out _ _ ⟨((cell_far (p := ⟨gb168, _, none⟩) NB166_168.out _).trans (((cell_far (p := ⟨gb168, _, none⟩) NB166_168.out _).trans (hHeld.1)))), ((cell_far (p := ⟨gb168, _, none⟩) NB166_168.out _).trans (((cell_far (p := ⟨gb168, _, none⟩) NB166_168.out _).trans (hHeld.2.1)))), ((cell_far (p := ⟨gb168, _, none⟩) NB167_168.out _).trans (((cell_far (p := ⟨gb168, _, none⟩) NB167_168.out _).trans (hHeld.2.2.1)))), ((cell_far (p := ⟨gb168, _, none⟩) NB167_168.out _).trans (((cell_far (p := ⟨gb168, _, none⟩) NB167_168.out _).trans (hHeld.2.2.2))))⟩ (fun hHeld => ?_)
      clear hK K
      refine pure_ (i := 11) (N := some 9) (v := ?_) (a' := ?_) #[true, true, true, true, true, true, true, true, true, true, true, true] rfl rfl (any_of HT_.out (by kernel_rfl)) (fun _ _ _ h => h) (Or.inl ⟨by rfl, ?_⟩) ?_ ?_
      rotate_left
      ·intro w'
       go_simp
       with_reducible rfl
      rotate_left
      ·simp only [Act.put, List.setIfInBounds_toArray, List.set_cons_zero, List.set_cons_succ, i64_w, i32_w]
       rfl
      refine done_ (done_of HT_.out (by kernel_rfl)) ?_
      try go_wp2
      refine bodyPost_ret (results_ct rfl _ _ gb168 29 #[.int .i64 t189, .int .i64 t190] (0, 0) _ rfl (by (with_reducible repeat (first | refine blk_drewN ?_ _ | refine blk_drew ?_ | refine blk_alloc ?_ _)); refine blk_put (cs := #[.int .i64 t189, .int .i64 0]) ?_ 1 _ rfl; (with_reducible repeat (first | refine blk_drewN ?_ _ | refine blk_drew ?_ | refine blk_alloc ?_ _)); refine blk_put (cs := #[.int .i64 0, .int .i64 0]) ?_ 0 _ rfl; (with_reducible repeat (first | refine blk_drewN ?_ _ | refine blk_drew ?_ | refine blk_alloc ?_ _)); exact BK168.out) Try.underlying29 rfl (by kernel_rfl)) rfl ?_
      exact ⟨by first | rfl | (simp [errW_none, errW_some] <;> rfl) | (simp [*, errW_none, errW_some] <;> rfl), bw HB⟩
 ·rw [if_neg c6] at H
  have c6b0 : (t173 == 0) = false := beq_eq_false_iff_ne.mpr c6
  have c6b1 : (t173 != 0) = true := bne_iff_ne.mpr c6
  simp only [Option.some.injEq, Prod.mk.injEq] at H
  obtain ⟨rfl, rfl, rfl⟩ := H
  go_enter Try.func21, Try.ntmps21
  go_wp2_with (first | ((with_reducible refine gate_dst (N := 6) rfl ?_); refine box_event ?hg (N := 6) ?hd (cs := #[.int .i64 a2_0, .int .i64 a2_1]) (t := 29) ?hr ?_; (case hd => rfl); (case hg => rfl); (case hr => first | (go_simp; done) | (go_simp; rfl)); intro gb166 hg w71 hbox hb; have n0_ := Aside0.mk (below_step (bw HB) hb); have n1_ := Aside0.mk (hbox); have n2_ := Aside0.mk (bs HB hg : w.heap.size ≤ gb166); have n3_ := Aside0.mk (bs HB hg : w.heap.size ≤ gb166); clear HB; have HB := n0_; have BK166 := n1_; have GW166 := n2_; have GE166 := n3_; clear n0_ n1_ n2_ n3_; clear hb hbox hg) | ((with_reducible refine gate_dst (N := 7) rfl ?_); refine box_event ?hg (N := 7) ?hd (cs := #[.int .i64 a3_0, .int .i64 a3_1]) (t := 29) ?hr ?_; (case hd => rfl); (case hg => rfl); (case hr => first | (go_simp; done) | (go_simp; rfl)); intro gb167 hg w72 hbox hb; have n0_ := Aside0.mk (bb BK166 hb); have n1_ := Aside0.mk (below_step (bw HB) hb); have n2_ := Aside0.mk (hbox); have n3_ := Aside0.mk (bs HB hg : w.heap.size ≤ gb167); have n4_ := Aside0.mk (bs HB hg : w.heap.size ≤ gb167); have n5_ := Aside0.mk (nl BK166 hg); have n6_ := Aside0.mk (ng BK166 hg); clear BK166; clear HB; have BK166 := n0_; have HB := n1_; have BK167 := n2_; have GW167 := n3_; have GE167 := n4_; have NB166_167 := n5_; have NB167_166 := n6_; clear n0_ n1_ n2_ n3_ n4_ n5_ n6_; clear hb hbox hg) | ((with_reducible refine gate_dst (N := 8) rfl ?_); refine box_event ?hg (N := 8) ?hd (cs := #[.int .i64 0, .int .i64 0]) (t := 29) ?hr ?_; (case hd => rfl); (case hg => rfl); (case hr => first | (go_simp; done) | (go_simp; rfl)); intro gb168 hg w73 hbox hb; have n0_ := Aside0.mk (bb BK166 hb); have n1_ := Aside0.mk (bb BK167 hb); have n2_ := Aside0.mk (below_step (bw HB) hb); have n3_ := Aside0.mk (hbox); have n4_ := Aside0.mk (bs HB hg : w.heap.size ≤ gb168); have n5_ := Aside0.mk (bs HB hg : w.heap.size ≤ gb168); have n6_ := Aside0.mk (nl BK166 hg); have n7_ := Aside0.mk (ng BK166 hg); have n8_ := Aside0.mk (nl BK167 hg); have n9_ := Aside0.mk (ng BK167 hg); clear BK166; clear BK167; clear HB; have BK166 := n0_; have BK167 := n1_; have HB := n2_; have BK168 := n3_; have GW168 := n4_; have GE168 := n5_; have NB166_168 := n6_; have NB168_166 := n7_; have NB167_168 := n8_; have NB168_167 := n9_; clear n0_ n1_ n2_ n3_ n4_ n5_ n6_ n7_ n8_ n9_; clear hb hbox hg; have hnb74 := NB166_167.out; have hnc74 := NB167_166.out; have hnb75 := NB166_168.out; have hnc75 := NB168_166.out; have hcz76_0 := bc BK166 0 rfl; have hcz76_1 := bc BK166 1 rfl; have hfz76_0 := blk_frozen BK166.out 0; have hfz76_1 := blk_frozen BK166.out 1; have hnb77 := NB167_168.out; have hnc77 := NB168_167.out; have hcz78_0 := bc BK167 0 rfl; have hcz78_1 := bc BK167 1 rfl; have hfz78_0 := blk_frozen BK167.out 0; have hfz78_1 := blk_frozen BK167.out 1) | ((with_reducible refine gate_dst (N := 17) rfl ?_); refine Kd.R_lit k29 _ 29 ?hg (N := 17) ?hd (xs := ([(⟨a2_0, a2_1⟩ : S29), (⟨a3_0, a3_1⟩ : S29)] : List (S29))) (inner := [.int .i64 a2_0, .int .i64 a2_1, .int .i64 a3_0, .int .i64 a3_1]) (ok := fun _ => True) (okp := fun _ => True) ?hr ?hp (fun _ hk => hk) trivial (Below.refl _ _) (Nat.le_refl _) (by simp) ?_; (case hd => rfl); (case hg => rfl); (case hr => first | (go_simp; done) | (go_simp; rfl)); (case hp => exact (Reps.c2 (show Kd.M k29 _ _ _ (⟨a2_0, a2_1⟩ : S29) [.int .i64 a2_0, .int .i64 a2_1] from (k29_mkM _ _ _ (⟨a2_0, a2_1⟩ : S29) )) (Reps.c2 (show Kd.M k29 _ _ _ (⟨a3_0, a3_1⟩ : S29) [.int .i64 a3_0, .int .i64 a3_1] from (k29_mkM _ _ _ (⟨a3_0, a3_1⟩ : S29) )) (Reps.none _ _)))); intro v170 w79 ho80 hb hg_ hnew_; clear hg_ hnew_; (first | rw [← Ny169.out] at ho80 | (simp only [Int.reduceToNat] at ho80; rw [← Ny169.out] at ho80)); have n0_ := Aside0.mk (Kd.R_lower (Kd.R_newB (Kd.R_newB (Kd.R_newB ho80 (g := gb166) (o := .cells #[.int .i64 a2_0, .int .i64 a2_1] 29 (0, 0)) (bk BK166)) (g := gb167) (o := .cells #[.int .i64 a3_0, .int .i64 a3_1] 29 (0, 0)) (bk BK167)) (g := gb168) (o := .cells #[.int .i64 0, .int .i64 0] 29 (0, 0)) (bk BK168)) (below_size (bw HB))); have n1_ := Aside0.mk (bb BK166 hb); have n2_ := Aside0.mk (bb BK167 hb); have n3_ := Aside0.mk (bb BK168 hb); have n4_ := Aside0.mk (below_step (bw HB) hb); clear BK166; clear BK167; clear BK168; clear HB; have HO171 := n0_; have BK166 := n1_; have BK167 := n2_; have BK168 := n3_; have HB := n4_; clear n0_ n1_ n2_ n3_ n4_; clear hb ho80; obtain ⟨Ao81, co81, eo81⟩ := Kd.R_slice HO171.out; subst eo81) | ((with_reducible refine gate_callee (f := 50) rfl ?_); refine goesL_ (some 18) rfl rfl Try.func50 (by kernel_rfl) rfl #[.int .i64 a0, .int .i64 a1, .slice Ao81 y169.length co81] rfl (by (try simp only [List.map_toArray, List.map_cons, List.map_nil]); first | done | rfl | (simp only [List.length_drop, List.length_take]; rfl)) ?_; (with_reducible refine (reals_check.calls k a0 a1 _ _ y169 t172 t173 _ ?side1 ?side2 A5.out).mono ?_); (case side1 => repeat (first | exact (Kd.R_reads' HO171.out).2.2 | (with_reducible refine Kd.C_alloc ?_ _) | (with_reducible refine Kd.C_drewN ?_ _) | (with_reducible refine Kd.C_drew ?_))); (case side2 => exact (Kd.R_reads' HO171.out).2.1); rintro e w82 ⟨rfl, hb⟩; refine ⟨_, rfl, ?_⟩; have n0_ := Aside0.mk (Kd.R_below (by (with_reducible repeat (first | apply Kd.R_alloc | apply Kd.R_drewN | apply Kd.R_drew)); exact HO171.out) hb); have n1_ := Aside0.mk (bb BK166 hb); have n2_ := Aside0.mk (bb BK167 hb); have n3_ := Aside0.mk (bb BK168 hb); have n4_ := Aside0.mk (below_step (bw HB) hb); clear HO171; clear BK166; clear BK167; clear BK168; clear HB; have HO171 := n0_; have BK166 := n1_; have BK167 := n2_; have BK168 := n3_; have HB := n4_; clear n0_ n1_ n2_ n3_ n4_; (try clear hb); (try clear hb2); (try clear hk); (try clear hi); have hcz83_0 := bc BK168 0 rfl; have hcz83_1 := bc BK168 1 rfl; have hfz83_0 := blk_frozen BK168.out 0; have hfz83_1 := blk_frozen BK168.out 1))
  refine bodyPost_ret (results_ct rfl _ _ gb168 29 #[.int .i64 0, .int .i64 0] (0, 0) _ rfl (by (with_reducible repeat (first | refine blk_drewN ?_ _ | refine blk_drew ?_ | refine blk_alloc ?_ _)); refine blk_put (cs := #[.int .i64 0, .int .i64 0]) ?_ 1 _ rfl; (with_reducible repeat (first | refine blk_drewN ?_ _ | refine blk_drew ?_ | refine blk_alloc ?_ _)); refine blk_put (cs := #[.int .i64 0, .int .i64 0]) ?_ 0 _ rfl; (with_reducible repeat (first | refine blk_drewN ?_ _ | refine blk_drew ?_ | refine blk_alloc ?_ _)); exact BK168.out) Try.underlying29 rfl (by kernel_rfl)) rfl ?_
  exact ⟨by first | rfl | (simp [errW_none, errW_some] <;> rfl) | (simp [*, errW_none, errW_some] <;> rfl), bw HB⟩
end Go.Proofs.Ytamkjpjibkabaaa.PR
