-- written by a program of this session out of the kit's print (its words and its form)
import Derived.Test.YtamkjpjibkabaaaPRgA
import Derived.Test.YtamkjpjibkabaaaPRHw
import Derived.Test.YtamkjpjibkabaaaPRsq
import Derived.Test.YtamkjpjibkabaaaPRx0
namespace Go.Proofs.Ytamkjpjibkabaaa.PR
open Go.RowKit Go.Proofs.YtamkjpjibkabaaaW.PrintWords Go.Proofs.YtamkjpjibkabaaaW.PrintLast Go.Proofs.YtamkjpjibkabaaaW.PrintMore
attribute [local go_sem] max2_int min2_int max_two min_two max_three min_three max_four min_four   -- for this text's walks alone
set_option linter.unusedVariables false
set_option linter.unusedSimpArgs false

/-! ### reals_Pow: function 19 -/
mutual
def reals_Pow.j0 : Nat → Int → Int → Bool → Int → Int → Option (Int × Int × Int)
 | 0, _, _, _, _, _ => none
 | k + 1, x0, x2, x28, x423000, x423001 => if x28 = true then (some (0, 0, 11)) else (reals_Pow.l0 k x0 x2 (mx x2 (wrap64 (-x2))) 0 x423000 x423001 1 0)
def reals_Pow.l0 : Nat → Int → Int → Int → Int → Int → Int → Int → Int → Option (Int × Int × Int)
 | 0, _, _, _, _, _, _, _, _ => none
 | k + 1, x0, x2, x34, x35, x423000, x423001, x430000, x430001 => if x35 < x34 then ((reals_Mul.f k x0 0 x430000 x430001 x423000 x423001).bind fun bt430 => (if bt430.2.2 = 0 then (reals_Pow.l0 k x0 x2 x34 (wrap64 (x35 + 1)) x423000 x423001 bt430.1 bt430.2.1) else (some (0, 0, bt430.2.2)))) else (if x2 < 0 then ((reals_Div.f k x0 0 1 0 x430000 x430001).bind fun bt433 => (some (bt433.1, bt433.2.1, bt433.2.2))) else (some (x430000, x430001, 0)))
end
def reals_Pow.f (k : Nat) (a0 : Int) (a1_0 : Int) (a1_1 : Int) (a2 : Int) : Option (Int × Int × Int) := (reals_check.f k a0 0 (([(⟨a1_0, a1_1⟩ : S29)] : List (S29)))).bind fun bt427 => (if bt427.2 = 0 then (if a2 < (-1000) then (reals_Pow.j0 k a0 a2 true a1_0 a1_1) else (reals_Pow.j0 k a0 a2 (decide (a2 > 1000)) a1_0 a1_1)) else (some (0, 0, bt427.2)))
theorem reals_Pow.mono_l : ∀ k, (∀ y0 y1 y2 y3 y4, LeO (reals_Pow.j0 k y0 y1 y2 y3 y4) (reals_Pow.j0 (k + 1) y0 y1 y2 y3 y4)) ∧ (∀ y0 y1 y2 y3 y4 y5 y6 y7, LeO (reals_Pow.l0 k y0 y1 y2 y3 y4 y5 y6 y7) (reals_Pow.l0 (k + 1) y0 y1 y2 y3 y4 y5 y6 y7))
 | 0 => ⟨fun _ _ _ _ _ r h => by simp [reals_Pow.j0] at h, fun _ _ _ _ _ _ _ _ r h => by simp [reals_Pow.l0] at h⟩
 | k + 1 => by
  obtain ⟨ih0, ih1⟩ := reals_Pow.mono_l k
  refine ⟨?_, ?_⟩
  ·intro y0 y1 y2 y3 y4
   unfold reals_Pow.j0
   repeat' first
   | (with_reducible exact ih0 _ _ _ _ _)
   | (with_reducible exact ih1 _ _ _ _ _ _ _ _)
   | (with_reducible exact reals_Div.mono _ _ _ _ _ _ _)
   | (with_reducible exact reals_Mul.mono _ _ _ _ _ _ _)
   | (with_reducible exact reals_check.mono _ _ _ _)
   | (with_reducible exact LeO.refl _)
   | (with_reducible exact LeO.none _)
   | (with_reducible refine LeO.ite ?_ ?_)
   | (with_reducible refine LeO.bind ?_ (fun _ => ?_))
   | exact ih0 _ _ _ _ _
   | exact ih1 _ _ _ _ _ _ _ _
   | exact reals_Div.mono _ _ _ _ _ _ _
   | exact reals_Mul.mono _ _ _ _ _ _ _
   | exact reals_check.mono _ _ _ _
   | exact LeO.none _
   | refine LeO.ite ?_ ?_
   | refine LeO.bind ?_ (fun _ => ?_)
  ·intro y0 y1 y2 y3 y4 y5 y6 y7
   unfold reals_Pow.l0
   repeat' first
   | (with_reducible exact ih0 _ _ _ _ _)
   | (with_reducible exact ih1 _ _ _ _ _ _ _ _)
   | (with_reducible exact reals_Div.mono _ _ _ _ _ _ _)
   | (with_reducible exact reals_Mul.mono _ _ _ _ _ _ _)
   | (with_reducible exact reals_check.mono _ _ _ _)
   | (with_reducible exact LeO.refl _)
   | (with_reducible exact LeO.none _)
   | (with_reducible refine LeO.ite ?_ ?_)
   | (with_reducible refine LeO.bind ?_ (fun _ => ?_))
   | exact ih0 _ _ _ _ _
   | exact ih1 _ _ _ _ _ _ _ _
   | exact reals_Div.mono _ _ _ _ _ _ _
   | exact reals_Mul.mono _ _ _ _ _ _ _
   | exact reals_check.mono _ _ _ _
   | exact LeO.none _
   | refine LeO.ite ?_ ?_
   | refine LeO.bind ?_ (fun _ => ?_)
theorem reals_Pow.mono : ∀ a0 a1 a2 a3 k, LeO (reals_Pow.f k a0 a1 a2 a3) (reals_Pow.f (k + 1) a0 a1 a2 a3) := by
 intro a0 a1 a2 a3 k
 obtain ⟨ih0, ih1⟩ := reals_Pow.mono_l k
 unfold reals_Pow.f
 repeat' first
   | (with_reducible exact ih0 _ _ _ _ _)
   | (with_reducible exact ih1 _ _ _ _ _ _ _ _)
   | (with_reducible exact reals_Div.mono _ _ _ _ _ _ _)
   | (with_reducible exact reals_Mul.mono _ _ _ _ _ _ _)
   | (with_reducible exact reals_check.mono _ _ _ _)
   | (with_reducible exact LeO.refl _)
   | (with_reducible exact LeO.none _)
   | (with_reducible refine LeO.ite ?_ ?_)
   | (with_reducible refine LeO.bind ?_ (fun _ => ?_))
   | exact ih0 _ _ _ _ _
   | exact ih1 _ _ _ _ _ _ _ _
   | exact reals_Div.mono _ _ _ _ _ _ _
   | exact reals_Mul.mono _ _ _ _ _ _ _
   | exact reals_check.mono _ _ _ _
   | exact LeO.none _
   | refine LeO.ite ?_ ?_
   | refine LeO.bind ?_ (fun _ => ?_)
set_option maxHeartbeats 8000000 in
set_option maxRecDepth 100000 in
theorem reals_Pow.calls (k : Nat) (a0 : Int) (a1_0 : Int) (a1_1 : Int) (a2 : Int) (r1 : Int) (r2 : Int) (r3 : Int) (w : World) (h : reals_Pow.f k a0 a1_0 a1_1 a2 = some (r1, r2, r3)) :
  Calls Try.prog 19 #[.int .i64 a0, .agg #[.int .i64 a1_0, .int .i64 a1_1], .int .i64 a2] w fun e w' => e = .returned (.tuple #[.agg #[.int .i64 r1, .int .i64 r2], .int .i64 r3]) ∧ Below w.heap.size w w' := by
 have hu29 := Try.underlying29
 have HB := Aside0.mk (Below.refl w.heap.size w)
 have H : ((reals_check.f k a0 0 (([(⟨a1_0, a1_1⟩ : S29)] : List (S29)))).bind fun bt427 => (if bt427.2 = 0 then (if a2 < (-1000) then (reals_Pow.j0 k a0 a2 true a1_0 a1_1) else (reals_Pow.j0 k a0 a2 (decide (a2 > 1000)) a1_0 a1_1)) else (some (0, 0, bt427.2)))) = some (r1, r2, r3) := h
 clear h
 obtain ⟨y424, hy424⟩ : ∃ y_ : List (S29), y_ = (([(⟨a1_0, a1_1⟩ : S29)] : List (S29))) := ⟨_, rfl⟩
 replace H : ((reals_check.f k a0 0 y424).bind fun bt427 => (if bt427.2 = 0 then (if a2 < (-1000) then (reals_Pow.j0 k a0 a2 true a1_0 a1_1) else (reals_Pow.j0 k a0 a2 (decide (a2 > 1000)) a1_0 a1_1)) else (some (0, 0, bt427.2)))) = some (r1, r2, r3) := by first | (rw [hy424]; with_reducible exact H) | (have H2_ := (Option.bind_some _ _).symm.trans H; rw [hy424]; with_reducible exact H2_) | (have H2_ := (Option.bind_some _ _).symm.trans H; with_reducible exact H2_) | with_reducible exact H | (rw [hy424]; exact H) | exact H
 have Ny424 := Aside0.mk hy424
 clear hy424
 replace H := Option.bind_eq_some_iff.mp H
 obtain ⟨⟨t427, t428⟩, A40, H⟩ := H
 replace H : (if t428 = 0 then (if a2 < (-1000) then (reals_Pow.j0 k a0 a2 true a1_0 a1_1) else (reals_Pow.j0 k a0 a2 (decide (a2 > 1000)) a1_0 a1_1)) else (some (0, 0, t428))) = some (r1, r2, r3) := H
 have A4 := Aside0.mk A40
 clear A40
 by_cases c5 : t428 = 0
 ·rw [if_pos c5] at H
  have c5b0 : (t428 == 0) = true := beq_iff_eq.mpr c5
  have c5b1 : (t428 != 0) = false := bne_eq_false_iff_eq.mpr c5
  clear c5
  have HC6 := Aside0.mk H
  clear H
  go_enter Try.func19, Try.ntmps19
  go_upto_region 4 with (first | ((with_reducible refine gate_dst (N := 4) rfl ?_); refine box_event ?hg (N := 4) ?hd (cs := #[.int .i64 a1_0, .int .i64 a1_1]) (t := 29) ?hr ?_; (case hd => rfl); (case hg => rfl); (case hr => first | (go_simp; done) | (go_simp; rfl)); intro gb422 hg w7 hbox hb; have BK422 := Aside0.mk (hbox); have GW422 := Aside0.mk (bs HB hg : w.heap.size ≤ gb422); replace HB := Aside0.mk (below_step (bw HB) hb); clear hb hbox hg) | ((with_reducible refine gate_dst (N := 6) rfl ?_); refine box_event ?hg (N := 6) ?hd (cs := #[.int .i64 0, .int .i64 0]) (t := 29) ?hr ?_; (case hd => rfl); (case hg => rfl); (case hr => first | (go_simp; done) | (go_simp; rfl)); intro gb423 hg w8 hbox hb; have BK423 := Aside0.mk (hbox); have GW423 := Aside0.mk (bs HB hg : w.heap.size ≤ gb423); replace HB := Aside0.mk (below_step (bw HB) hb); have NB422_423 := Aside0.mk (nl BK422 hg); have NB423_422 := Aside0.mk (ng BK422 hg); replace BK422 := Aside0.mk (bb BK422 hb); clear hb hbox hg; have hnb9 := NB422_423.out; have hnc9 := NB423_422.out; obtain ⟨hcz10_0, hcz10_1, hfz10_0, hfz10_1⟩ := cf2 BK422) | ((with_reducible refine gate_dst (N := 15) rfl ?_); refine Kd.R_lit k29 _ 29 ?hg (N := 15) ?hd (xs := ([(⟨a1_0, a1_1⟩ : S29)] : List (S29))) (inner := [.int .i64 a1_0, .int .i64 a1_1]) (ok := fun _ => True) (okp := fun _ => True) ?hr ?hp (fun _ hk => hk) trivial (Below.refl _ _) (Nat.le_refl _) (by simp) ?_; (case hd => rfl); (case hg => rfl); (case hr => first | (go_simp; done) | (go_simp; rfl)); (case hp => exact (Reps.c2 (show Kd.M k29 _ _ _ (⟨a1_0, a1_1⟩ : S29) [.int .i64 a1_0, .int .i64 a1_1] from (k29_mkM _ _ _ (⟨a1_0, a1_1⟩ : S29) )) (Reps.none _ _))); intro v425 w11 ho12 hb hg_ hnew_; clear hg_ hnew_; (first | rw [← Ny424.out] at ho12 | (simp only [Int.reduceToNat] at ho12; rw [← Ny424.out] at ho12)); have HO426 := Aside0.mk (Kd.R_lower (Kd.R_newB (Kd.R_newB ho12 (g := gb422) (o := .cells #[.int .i64 a1_0, .int .i64 a1_1] 29 (0, 0)) (bk BK422)) (g := gb423) (o := .cells #[.int .i64 0, .int .i64 0] 29 (0, 0)) (bk BK423)) (below_size (bw HB))); replace BK422 := Aside0.mk (bb BK422 hb); replace BK423 := Aside0.mk (bb BK423 hb); replace HB := Aside0.mk (below_step (bw HB) hb); clear hb ho12; obtain ⟨Ao13, co13, eo13⟩ := Kd.R_slice HO426.out; subst eo13) | ((with_reducible refine gate_callee (f := 50) rfl ?_); refine goesL_ (some 16) rfl rfl Try.func50 (by kernel_rfl) rfl #[.int .i64 a0, .int .i64 0, .slice Ao13 y424.length co13] rfl (by (try simp only [List.map_toArray, List.map_cons, List.map_nil]); first | done | rfl | (simp only [List.length_drop, List.length_take]; rfl)) ?_; (with_reducible refine (reals_check.calls k a0 0 _ _ y424 t427 t428 _ ?side1 ?side2 A4.out).mono ?_); (case side1 => repeat (first | exact (Kd.R_reads' HO426.out).2.2 | (with_reducible refine Kd.C_alloc ?_ _) | (with_reducible refine Kd.C_drewN ?_ _) | (with_reducible refine Kd.C_drew ?_))); (case side2 => exact (Kd.R_reads' HO426.out).2.1); rintro e w14 ⟨rfl, hb⟩; refine ⟨_, rfl, ?_⟩; replace HO426 := Aside0.mk (Kd.R_below (by (with_reducible repeat (first | apply Kd.R_alloc | apply Kd.R_drewN | apply Kd.R_drew)); exact HO426.out) hb); replace BK422 := Aside0.mk (bb BK422 hb); replace BK423 := Aside0.mk (bb BK423 hb); replace HB := Aside0.mk (below_step (bw HB) hb); (try clear hb); (try clear hb2); (try clear hk); (try clear hi)))
  (try simp only [sx])
  go_cut [28] (fun v28 wc => ∃ (kq : Nat) (x28_5 : Bool), v28 = .bool x28_5 ∧ Aside0 (reals_Pow.j0 kq a0 a2 x28_5 a1_0 a1_1 = some (r1, r2, r3)) ∧ Aside0 (kq ≤ k) ∧ Aside0 (wc.heap[gb422]? = some (.cells #[.int .i64 a1_0, .int .i64 a1_1] 29 (0, 0))) ∧ Aside0 (wc.heap[gb423]? = some (.cells #[.int .i64 0, .int .i64 0] 29 (0, 0))) ∧ Aside0 (Below w.heap.size w wc))
  case first =>
   have H := HC6.out
   clear HC6
   by_cases c15 : a2 < (-1000)
   ·rw [if_pos c15] at H
    have c15b0 : decide (a2 < (-1000)) = true := decide_eq_true c15
    clear c15
    (first | rw [c15b0] | (simp only [i64_w, i32_w]; rw [c15b0]) | skip)
    have H' := Aside0.mk H
    clear H
    go_wp2
    go_meet
    case rel => exact ⟨_, (true), (by first | rfl | (simp; done) | (simp [*]; done)), H', ⟨by first | omega | exact Nat.le_refl _⟩, ⟨by (with_reducible repeat (first | refine blk_drewN ?_ _ | refine blk_drew ?_ | refine blk_alloc ?_ _)); exact BK422.out⟩, ⟨by (with_reducible repeat (first | refine blk_drewN ?_ _ | refine blk_drew ?_ | refine blk_alloc ?_ _)); exact BK423.out⟩, ⟨bw HB⟩⟩
   ·rw [if_neg c15] at H
    have c15b0 : decide (a2 < (-1000)) = false := decide_eq_false c15
    clear c15
    (first | rw [c15b0] | (simp only [i64_w, i32_w]; rw [c15b0]) | skip)
    have H' := Aside0.mk H
    clear H
    go_wp2
    go_meet
    case rel => exact ⟨_, (decide (a2 > 1000)), (by first | rfl | (simp; done) | (simp [*]; done)), H', ⟨by first | omega | exact Nat.le_refl _⟩, ⟨by (with_reducible repeat (first | refine blk_drewN ?_ _ | refine blk_drew ?_ | refine blk_alloc ?_ _)); exact BK422.out⟩, ⟨by (with_reducible repeat (first | refine blk_drewN ?_ _ | refine blk_drew ?_ | refine blk_alloc ?_ _)); exact BK423.out⟩, ⟨bw HB⟩⟩
  case rest =>
   clear HC6
   try clear c1
   try clear c2
   try clear p2
   try clear c5
   try clear c5b0
   try clear c5b1
   try clear c9
   try clear c15
   try clear c15b0
   try clear hcz10_0
   try clear hcz10_1
   try clear hfz10_0
   try clear hfz10_1
   obtain ⟨kq, x28_5, rfl, HA, HJ5, BK422, BK423, HB⟩ := hcut
   cases kq with
   | zero => exact absurd HA.out (by simp [reals_Pow.j0])
   | succ kj5 =>
    have H := HA.out
    clear HA
    simp only [reals_Pow.j0] at H
    by_cases c16 : x28_5 = true
    ·subst c16
     have H1 : (some (0, 0, 11)) = some (r1, r2, r3) := by rw [if_pos rfl] at H; exact H
     clear H
     have H := H1
     clear H1
     simp only [Option.some.injEq, Prod.mk.injEq] at H
     obtain ⟨rfl, rfl, rfl⟩ := H
     have hnb17 := NB423_422.out
     have hnc17 := NB422_423.out
     have hcz18_0 : wc.cell? ⟨gb423, 0, none⟩ = some (.int .i64 0) := (blk_cell BK423.out 0).trans rfl
     have hcz18_1 : wc.cell? ⟨gb423, 1, none⟩ = some (.int .i64 0) := (blk_cell BK423.out 1).trans rfl
     have hfz18_0 := blk_frozen BK423.out 0
     have hfz18_1 := blk_frozen BK423.out 1
     go_wp2
     refine bodyPost_ret (results_ct rfl _ _ gb423 29 #[.int .i64 0, .int .i64 0] (0, 0) _ rfl (by (with_reducible repeat (first | refine blk_drewN ?_ _ | refine blk_drew ?_ | refine blk_alloc ?_ _)); refine blk_put (cs := #[.int .i64 0, .int .i64 0]) ?_ 1 _ rfl; (with_reducible repeat (first | refine blk_drewN ?_ _ | refine blk_drew ?_ | refine blk_alloc ?_ _)); refine blk_put (cs := #[.int .i64 0, .int .i64 0]) ?_ 0 _ rfl; (with_reducible repeat (first | refine blk_drewN ?_ _ | refine blk_drew ?_ | refine blk_alloc ?_ _)); exact BK423.out) Try.underlying29 rfl (by kernel_rfl)) rfl ?_
     exact ⟨by first | rfl | (simp [errW_none, errW_some] <;> rfl) | (simp [*, errW_none, errW_some] <;> rfl), bw HB⟩
    ·replace c16 := Bool.eq_false_iff.mpr c16
     subst c16
     have H1 : (reals_Pow.l0 kj5 a0 a2 (mx a2 (wrap64 (-a2))) 0 a1_0 a1_1 1 0) = some (r1, r2, r3) := by rw [if_neg (show ¬ (false = true) by decide)] at H; exact H
     clear H
     have H := H1
     clear H1
     obtain ⟨ji19, hji19⟩ : ∃ j_ : Int, (mx a2 (wrap64 (-a2))) = j_ := ⟨_, rfl⟩
     replace H : (reals_Pow.l0 kj5 a0 a2 ji19 0 a1_0 a1_1 1 0) = some (r1, r2, r3) := by first | (rw [hji19] at H; exact H) | (simp only [hji19] at H ⊢; exact H)
     have hji19_ : (if a2 < (wrap64 (-a2)) then (wrap64 (-a2)) else a2) = ji19 := hji19
     have H' := Aside0.mk H
     clear H
     go_wp2_with (first | ((with_reducible refine gate_dst (N := 10) rfl ?_); refine box_event ?hg (N := 10) ?hd (cs := #[.int .i64 0, .int .i64 0]) (t := 29) ?hr ?_; (case hd => rfl); (case hg => rfl); (case hr => first | (go_simp; done) | (go_simp; rfl)); intro gb429 hg w20 hbox hb; have BK429 := Aside0.mk (hbox); have GW429 := Aside0.mk (bs HB hg : w.heap.size ≤ gb429); replace HB := Aside0.mk (below_step (bw HB) hb); have NB422_429 := Aside0.mk (nl BK422 hg); have NB429_422 := Aside0.mk (ng BK422 hg); replace BK422 := Aside0.mk (bb BK422 hb); have NB423_429 := Aside0.mk (nl BK423 hg); have NB429_423 := Aside0.mk (ng BK423 hg); replace BK423 := Aside0.mk (bb BK423 hb); clear hb hbox hg; have hnb21 := NB429_422.out; have hnc21 := NB422_429.out; have hnb22 := NB429_423.out; have hnc22 := NB423_429.out; obtain ⟨hcz23_0, hcz23_1, hfz23_0, hfz23_1⟩ := cf2 BK429))
     go_loopg [35] kj5 (fun kq v35 w' => ∃ (x35_2 : Int) (x424000_2 : Int) (x424001_2 : Int) (x430000_2 : Int) (x430001_2 : Int), v35 = .int .i64 x35_2 ∧ Aside0 (reals_Pow.l0 kq a0 a2 ji19 x35_2 a1_0 a1_1 x430000_2 x430001_2 = some (r1, r2, r3)) ∧ Aside0 (kq ≤ kj5) ∧ Aside0 (w'.heap[gb422]? = some (.cells #[.int .i64 a1_0, .int .i64 a1_1] 29 (0, 0))) ∧ Aside0 (w'.heap[gb423]? = some (.cells #[.int .i64 x424000_2, .int .i64 x424001_2] 29 (0, 0))) ∧ Aside0 (w'.heap[gb429]? = some (.cells #[.int .i64 x430000_2, .int .i64 x430001_2] 29 (0, 0))) ∧ Aside0 (Below w.heap.size w w'))
     case atStart => exact ⟨(0), (0), (0), (1), (0), (by first | rfl | (simp; done) | (simp [*]; done)), H', ⟨Nat.le_refl _⟩, ⟨by (with_reducible repeat (first | refine blk_drewN ?_ _ | refine blk_drew ?_ | refine blk_alloc ?_ _)); refine blk_far ?_ NB422_429.out _; (with_reducible repeat (first | refine blk_drewN ?_ _ | refine blk_drew ?_ | refine blk_alloc ?_ _)); refine blk_far ?_ NB422_429.out _; (with_reducible repeat (first | refine blk_drewN ?_ _ | refine blk_drew ?_ | refine blk_alloc ?_ _)); exact BK422.out⟩, ⟨by (with_reducible repeat (first | refine blk_drewN ?_ _ | refine blk_drew ?_ | refine blk_alloc ?_ _)); refine blk_far ?_ NB423_429.out _; (with_reducible repeat (first | refine blk_drewN ?_ _ | refine blk_drew ?_ | refine blk_alloc ?_ _)); refine blk_far ?_ NB423_429.out _; (with_reducible repeat (first | refine blk_drewN ?_ _ | refine blk_drew ?_ | refine blk_alloc ?_ _)); exact BK423.out⟩, ⟨by (with_reducible repeat (first | refine blk_drewN ?_ _ | refine blk_drew ?_ | refine blk_alloc ?_ _)); refine blk_put (cs := #[.int .i64 1, .int .i64 0]) ?_ 1 _ rfl; (with_reducible repeat (first | refine blk_drewN ?_ _ | refine blk_drew ?_ | refine blk_alloc ?_ _)); refine blk_put (cs := #[.int .i64 0, .int .i64 0]) ?_ 0 _ rfl; (with_reducible repeat (first | refine blk_drewN ?_ _ | refine blk_drew ?_ | refine blk_alloc ?_ _)); exact BK429.out⟩, ⟨bw HB⟩⟩
     case round =>
      clear H'
      try clear c1
      try clear c2
      try clear p2
      try clear c5
      try clear c5b0
      try clear c5b1
      try clear p6
      try clear c9
      try clear c15
      try clear c15b0
      try clear c16
      try clear c17
      try clear c19
      try clear c21
      try clear c22
      try clear hcz10_0
      try clear hcz10_1
      try clear hcz18_0
      try clear hcz18_1
      try clear hcz23_0
      try clear hcz23_1
      try clear hfz10_0
      try clear hfz10_1
      try clear hfz18_0
      try clear hfz18_1
      try clear hfz23_0
      try clear hfz23_1
      try clear p2
      obtain ⟨x35_2, x424000_2, x424001_2, x430000_2, x430001_2, rfl, HA, HK2, BK422, BK423, BK429, HB⟩ := hrel
      cases gk with
      | zero => exact absurd HA.out (by simp [reals_Pow.l0])
      | succ k2 =>
       have H := HA.out
       clear HA
       simp only [reals_Pow.l0] at H
       by_cases c24 : x35_2 < ji19
       ·rw [if_pos c24] at H
        have c24b0 : decide (x35_2 < ji19) = true := decide_eq_true c24
        clear c24
        replace H := Option.bind_eq_some_iff.mp H
        obtain ⟨⟨t430, t431, t432⟩, A250, H⟩ := H
        replace H : (if t432 = 0 then (reals_Pow.l0 k2 a0 a2 ji19 (wrap64 (x35_2 + 1)) a1_0 a1_1 t430 t431) else (some (0, 0, t432))) = some (r1, r2, r3) := H
        have A25 := Aside0.mk A250
        clear A250
        by_cases c26 : t432 = 0
        ·rw [if_pos c26] at H
         have c26b0 : (t432 == 0) = true := beq_iff_eq.mpr c26
         have c26b1 : (t432 != 0) = false := bne_eq_false_iff_eq.mpr c26
         clear c26
         have H' := Aside0.mk H
         clear H
         have hnb27 := NB429_422.out
         have hnc27 := NB422_429.out
         have hnb28 := NB429_423.out
         have hnc28 := NB423_429.out
         have hcz29_0 : wr.cell? ⟨gb429, 0, none⟩ = some (.int .i64 x430000_2) := (blk_cell BK429.out 0).trans rfl
         have hcz29_1 : wr.cell? ⟨gb429, 1, none⟩ = some (.int .i64 x430001_2) := (blk_cell BK429.out 1).trans rfl
         have hfz29_0 := blk_frozen BK429.out 0
         have hfz29_1 := blk_frozen BK429.out 1
         have hnb30 := NB422_423.out
         have hnc30 := NB423_422.out
         have hcz31_0 : wr.cell? ⟨gb422, 0, none⟩ = some (.int .i64 a1_0) := (blk_cell BK422.out 0).trans rfl
         have hcz31_1 : wr.cell? ⟨gb422, 1, none⟩ = some (.int .i64 a1_1) := (blk_cell BK422.out 1).trans rfl
         have hfz31_0 := blk_frozen BK422.out 0
         have hfz31_1 := blk_frozen BK422.out 1
         go_wp2_with (first | ((with_reducible refine gate_callee (f := 25) rfl ?_); refine goesL_ (some 41) rfl rfl Try.func25 (by kernel_rfl) rfl #[.int .i64 a0, .int .i64 0, .agg #[.int .i64 x430000_2, .int .i64 x430001_2], .agg #[.int .i64 a1_0, .int .i64 a1_1]] rfl (by (try simp only [List.map_toArray, List.map_cons, List.map_nil]); first | done | rfl | (simp only [List.length_drop, List.length_take]; rfl)) ?_; (with_reducible refine (reals_Mul.calls k2 a0 0 x430000_2 x430001_2 a1_0 a1_1 t430 t431 t432 _ A25.out).mono ?_); rintro e w32 ⟨rfl, hb⟩; refine ⟨_, rfl, ?_⟩; replace BK422 := Aside0.mk (bb BK422 hb); replace BK423 := Aside0.mk (bb BK423 hb); replace BK429 := Aside0.mk (bb BK429 hb); replace HB := Aside0.mk (below_step (bw HB) hb); (try clear hb); (try clear hb2); (try clear hk); (try clear hi); obtain ⟨hcz33_0, hcz33_1, hfz33_0, hfz33_1⟩ := cf2 BK429))
         go_roundg k2
         case measure => have := HJ5.out; have := HK2.out; omega
         case rel => exact ⟨(wrap64 (x35_2 + 1)), (x424000_2), (x424001_2), (t430), (t431), (by first | rfl | (simp; done) | (simp [*]; done)), H', ⟨by have := HJ5.out; have := HK2.out; omega⟩, ⟨by (with_reducible repeat (first | refine blk_drewN ?_ _ | refine blk_drew ?_ | refine blk_alloc ?_ _)); refine blk_far ?_ NB422_429.out _; (with_reducible repeat (first | refine blk_drewN ?_ _ | refine blk_drew ?_ | refine blk_alloc ?_ _)); refine blk_far ?_ NB422_429.out _; (with_reducible repeat (first | refine blk_drewN ?_ _ | refine blk_drew ?_ | refine blk_alloc ?_ _)); exact BK422.out⟩, ⟨by (with_reducible repeat (first | refine blk_drewN ?_ _ | refine blk_drew ?_ | refine blk_alloc ?_ _)); refine blk_far ?_ NB423_429.out _; (with_reducible repeat (first | refine blk_drewN ?_ _ | refine blk_drew ?_ | refine blk_alloc ?_ _)); refine blk_far ?_ NB423_429.out _; (with_reducible repeat (first | refine blk_drewN ?_ _ | refine blk_drew ?_ | refine blk_alloc ?_ _)); exact BK423.out⟩, ⟨by (with_reducible repeat (first | refine blk_drewN ?_ _ | refine blk_drew ?_ | refine blk_alloc ?_ _)); refine blk_put (cs := #[.int .i64 t430, .int .i64 x430001_2]) ?_ 1 _ rfl; (with_reducible repeat (first | refine blk_drewN ?_ _ | refine blk_drew ?_ | refine blk_alloc ?_ _)); refine blk_put (cs := #[.int .i64 x430000_2, .int .i64 x430001_2]) ?_ 0 _ rfl; (with_reducible repeat (first | refine blk_drewN ?_ _ | refine blk_drew ?_ | refine blk_alloc ?_ _)); exact BK429.out⟩, ⟨bw HB⟩⟩
        ·rw [if_neg c26] at H
         have c26b0 : (t432 == 0) = false := beq_eq_false_iff_ne.mpr c26
         have c26b1 : (t432 != 0) = true := bne_iff_ne.mpr c26
         simp only [Option.some.injEq, Prod.mk.injEq] at H
         obtain ⟨rfl, rfl, rfl⟩ := H
         have hnb34 := NB429_422.out
         have hnc34 := NB422_429.out
         have hnb35 := NB429_423.out
         have hnc35 := NB423_429.out
         have hcz36_0 : wr.cell? ⟨gb429, 0, none⟩ = some (.int .i64 x430000_2) := (blk_cell BK429.out 0).trans rfl
         have hcz36_1 : wr.cell? ⟨gb429, 1, none⟩ = some (.int .i64 x430001_2) := (blk_cell BK429.out 1).trans rfl
         have hfz36_0 := blk_frozen BK429.out 0
         have hfz36_1 := blk_frozen BK429.out 1
         have hnb37 := NB422_423.out
         have hnc37 := NB423_422.out
         have hcz38_0 : wr.cell? ⟨gb422, 0, none⟩ = some (.int .i64 a1_0) := (blk_cell BK422.out 0).trans rfl
         have hcz38_1 : wr.cell? ⟨gb422, 1, none⟩ = some (.int .i64 a1_1) := (blk_cell BK422.out 1).trans rfl
         have hfz38_0 := blk_frozen BK422.out 0
         have hfz38_1 := blk_frozen BK422.out 1
         go_wp2_with (first | ((with_reducible refine gate_callee (f := 25) rfl ?_); refine goesL_ (some 41) rfl rfl Try.func25 (by kernel_rfl) rfl #[.int .i64 a0, .int .i64 0, .agg #[.int .i64 x430000_2, .int .i64 x430001_2], .agg #[.int .i64 a1_0, .int .i64 a1_1]] rfl (by (try simp only [List.map_toArray, List.map_cons, List.map_nil]); first | done | rfl | (simp only [List.length_drop, List.length_take]; rfl)) ?_; (with_reducible refine (reals_Mul.calls k2 a0 0 x430000_2 x430001_2 a1_0 a1_1 t430 t431 t432 _ A25.out).mono ?_); rintro e w39 ⟨rfl, hb⟩; refine ⟨_, rfl, ?_⟩; replace BK422 := Aside0.mk (bb BK422 hb); replace BK423 := Aside0.mk (bb BK423 hb); replace BK429 := Aside0.mk (bb BK429 hb); replace HB := Aside0.mk (below_step (bw HB) hb); (try clear hb); (try clear hb2); (try clear hk); (try clear hi); obtain ⟨hcz40_0, hcz40_1, hfz40_0, hfz40_1⟩ := cf2 BK429; obtain ⟨hcz41_0, hcz41_1, hfz41_0, hfz41_1⟩ := cf2 BK423))
         refine bodyPost_ret (results_ct rfl _ _ gb423 29 #[.int .i64 0, .int .i64 0] (0, 0) _ rfl (by (with_reducible repeat (first | refine blk_drewN ?_ _ | refine blk_drew ?_ | refine blk_alloc ?_ _)); refine blk_put (cs := #[.int .i64 0, .int .i64 x424001_2]) ?_ 1 _ rfl; (with_reducible repeat (first | refine blk_drewN ?_ _ | refine blk_drew ?_ | refine blk_alloc ?_ _)); refine blk_put (cs := #[.int .i64 x424000_2, .int .i64 x424001_2]) ?_ 0 _ rfl; (with_reducible repeat (first | refine blk_drewN ?_ _ | refine blk_drew ?_ | refine blk_alloc ?_ _)); refine blk_far ?_ NB423_429.out _; (with_reducible repeat (first | refine blk_drewN ?_ _ | refine blk_drew ?_ | refine blk_alloc ?_ _)); refine blk_far ?_ NB423_429.out _; (with_reducible repeat (first | refine blk_drewN ?_ _ | refine blk_drew ?_ | refine blk_alloc ?_ _)); exact BK423.out) Try.underlying29 rfl (by kernel_rfl)) rfl ?_
         exact ⟨by first | rfl | (simp [errW_none, errW_some] <;> rfl) | (simp only [← hji19]; first | rfl | (simp [errW_none, errW_some] <;> rfl)) | (simp [*, errW_none, errW_some] <;> rfl), bw HB⟩
       ·rw [if_neg c24] at H
        have c24b0 : decide (x35_2 < ji19) = false := decide_eq_false c24
        clear c24
        by_cases c42 : a2 < 0
        ·rw [if_pos c42] at H
         have c42b0 : decide (a2 < 0) = true := decide_eq_true c42
         clear c42
         replace H := Option.bind_eq_some_iff.mp H
         obtain ⟨⟨t433, t434, t435⟩, A430, H⟩ := H
         replace H : (some (t433, t434, t435)) = some (r1, r2, r3) := H
         have A43 := Aside0.mk A430
         clear A430
         simp only [Option.some.injEq, Prod.mk.injEq] at H
         obtain ⟨rfl, rfl, rfl⟩ := H
         have hnb44 := NB429_422.out
         have hnc44 := NB422_429.out
         have hnb45 := NB429_423.out
         have hnc45 := NB423_429.out
         have hcz46_0 : wr.cell? ⟨gb429, 0, none⟩ = some (.int .i64 x430000_2) := (blk_cell BK429.out 0).trans rfl
         have hcz46_1 : wr.cell? ⟨gb429, 1, none⟩ = some (.int .i64 x430001_2) := (blk_cell BK429.out 1).trans rfl
         have hfz46_0 := blk_frozen BK429.out 0
         have hfz46_1 := blk_frozen BK429.out 1
         go_wp2_with (first | ((with_reducible refine gate_callee (f := 27) rfl ?_); refine goesL_ (some 54) rfl rfl Try.func27 (by kernel_rfl) rfl #[.int .i64 a0, .int .i64 0, .agg #[.int .i64 1, .int .i64 0], .agg #[.int .i64 x430000_2, .int .i64 x430001_2]] rfl (by (try simp only [List.map_toArray, List.map_cons, List.map_nil]); first | done | rfl | (simp only [List.length_drop, List.length_take]; rfl)) ?_; (with_reducible refine (reals_Div.calls k2 a0 0 1 0 x430000_2 x430001_2 t433 t434 t435 _ A43.out).mono ?_); rintro e w47 ⟨rfl, hb⟩; refine ⟨_, rfl, ?_⟩; replace BK422 := Aside0.mk (bb BK422 hb); replace BK423 := Aside0.mk (bb BK423 hb); replace BK429 := Aside0.mk (bb BK429 hb); replace HB := Aside0.mk (below_step (bw HB) hb); (try clear hb); (try clear hb2); (try clear hk); (try clear hi); have hnb48 := NB423_422.out; have hnc48 := NB422_423.out; obtain ⟨hcz49_0, hcz49_1, hfz49_0, hfz49_1⟩ := cf2 BK423))
         refine bodyPost_ret (results_ct rfl _ _ gb423 29 #[.int .i64 t433, .int .i64 t434] (0, 0) _ rfl (by (with_reducible repeat (first | refine blk_drewN ?_ _ | refine blk_drew ?_ | refine blk_alloc ?_ _)); refine blk_put (cs := #[.int .i64 t433, .int .i64 x424001_2]) ?_ 1 _ rfl; (with_reducible repeat (first | refine blk_drewN ?_ _ | refine blk_drew ?_ | refine blk_alloc ?_ _)); refine blk_put (cs := #[.int .i64 x424000_2, .int .i64 x424001_2]) ?_ 0 _ rfl; (with_reducible repeat (first | refine blk_drewN ?_ _ | refine blk_drew ?_ | refine blk_alloc ?_ _)); exact BK423.out) Try.underlying29 rfl (by kernel_rfl)) rfl ?_
         exact ⟨by first | rfl | (simp [errW_none, errW_some] <;> rfl) | (simp only [← hji19]; first | rfl | (simp [errW_none, errW_some] <;> rfl)) | (simp [*, errW_none, errW_some] <;> rfl), bw HB⟩
        ·rw [if_neg c42] at H
         have c42b0 : decide (a2 < 0) = false := decide_eq_false c42
         clear c42
         simp only [Option.some.injEq, Prod.mk.injEq] at H
         obtain ⟨rfl, rfl, rfl⟩ := H
         have hnb50 := NB429_422.out
         have hnc50 := NB422_429.out
         have hnb51 := NB429_423.out
         have hnc51 := NB423_429.out
         have hcz52_0 : wr.cell? ⟨gb429, 0, none⟩ = some (.int .i64 x430000_2) := (blk_cell BK429.out 0).trans rfl
         have hcz52_1 : wr.cell? ⟨gb429, 1, none⟩ = some (.int .i64 x430001_2) := (blk_cell BK429.out 1).trans rfl
         have hfz52_0 := blk_frozen BK429.out 0
         have hfz52_1 := blk_frozen BK429.out 1
         have hnb53 := NB423_422.out
         have hnc53 := NB422_423.out
         have hcz54_0 : wr.cell? ⟨gb423, 0, none⟩ = some (.int .i64 x424000_2) := (blk_cell BK423.out 0).trans rfl
         have hcz54_1 : wr.cell? ⟨gb423, 1, none⟩ = some (.int .i64 x424001_2) := (blk_cell BK423.out 1).trans rfl
         have hfz54_0 := blk_frozen BK423.out 0
         have hfz54_1 := blk_frozen BK423.out 1
         go_wp2
         refine bodyPost_ret (results_ct rfl _ _ gb423 29 #[.int .i64 x430000_2, .int .i64 x430001_2] (0, 0) _ rfl (by (with_reducible repeat (first | refine blk_drewN ?_ _ | refine blk_drew ?_ | refine blk_alloc ?_ _)); refine blk_put (cs := #[.int .i64 x430000_2, .int .i64 x424001_2]) ?_ 1 _ rfl; (with_reducible repeat (first | refine blk_drewN ?_ _ | refine blk_drew ?_ | refine blk_alloc ?_ _)); refine blk_put (cs := #[.int .i64 x424000_2, .int .i64 x424001_2]) ?_ 0 _ rfl; (with_reducible repeat (first | refine blk_drewN ?_ _ | refine blk_drew ?_ | refine blk_alloc ?_ _)); exact BK423.out) Try.underlying29 rfl (by kernel_rfl)) rfl ?_
         exact ⟨by first | rfl | (simp [errW_none, errW_some] <;> rfl) | (simp only [← hji19]; first | rfl | (simp [errW_none, errW_some] <;> rfl)) | (simp [*, errW_none, errW_some] <;> rfl), bw HB⟩
 ·rw [if_neg c5] at H
  have c5b0 : (t428 == 0) = false := beq_eq_false_iff_ne.mpr c5
  have c5b1 : (t428 != 0) = true := bne_iff_ne.mpr c5
  simp only [Option.some.injEq, Prod.mk.injEq] at H
  obtain ⟨rfl, rfl, rfl⟩ := H
  go_enter Try.func19, Try.ntmps19
  go_wp2_with (first | ((with_reducible refine gate_dst (N := 4) rfl ?_); refine box_event ?hg (N := 4) ?hd (cs := #[.int .i64 a1_0, .int .i64 a1_1]) (t := 29) ?hr ?_; (case hd => rfl); (case hg => rfl); (case hr => first | (go_simp; done) | (go_simp; rfl)); intro gb422 hg w55 hbox hb; have BK422 := Aside0.mk (hbox); have GW422 := Aside0.mk (bs HB hg : w.heap.size ≤ gb422); replace HB := Aside0.mk (below_step (bw HB) hb); clear hb hbox hg) | ((with_reducible refine gate_dst (N := 6) rfl ?_); refine box_event ?hg (N := 6) ?hd (cs := #[.int .i64 0, .int .i64 0]) (t := 29) ?hr ?_; (case hd => rfl); (case hg => rfl); (case hr => first | (go_simp; done) | (go_simp; rfl)); intro gb423 hg w56 hbox hb; have BK423 := Aside0.mk (hbox); have GW423 := Aside0.mk (bs HB hg : w.heap.size ≤ gb423); replace HB := Aside0.mk (below_step (bw HB) hb); have NB422_423 := Aside0.mk (nl BK422 hg); have NB423_422 := Aside0.mk (ng BK422 hg); replace BK422 := Aside0.mk (bb BK422 hb); clear hb hbox hg; have hnb57 := NB422_423.out; have hnc57 := NB423_422.out; obtain ⟨hcz58_0, hcz58_1, hfz58_0, hfz58_1⟩ := cf2 BK422) | ((with_reducible refine gate_dst (N := 15) rfl ?_); refine Kd.R_lit k29 _ 29 ?hg (N := 15) ?hd (xs := ([(⟨a1_0, a1_1⟩ : S29)] : List (S29))) (inner := [.int .i64 a1_0, .int .i64 a1_1]) (ok := fun _ => True) (okp := fun _ => True) ?hr ?hp (fun _ hk => hk) trivial (Below.refl _ _) (Nat.le_refl _) (by simp) ?_; (case hd => rfl); (case hg => rfl); (case hr => first | (go_simp; done) | (go_simp; rfl)); (case hp => exact (Reps.c2 (show Kd.M k29 _ _ _ (⟨a1_0, a1_1⟩ : S29) [.int .i64 a1_0, .int .i64 a1_1] from (k29_mkM _ _ _ (⟨a1_0, a1_1⟩ : S29) )) (Reps.none _ _))); intro v425 w59 ho60 hb hg_ hnew_; clear hg_ hnew_; (first | rw [← Ny424.out] at ho60 | (simp only [Int.reduceToNat] at ho60; rw [← Ny424.out] at ho60)); have HO426 := Aside0.mk (Kd.R_lower (Kd.R_newB (Kd.R_newB ho60 (g := gb422) (o := .cells #[.int .i64 a1_0, .int .i64 a1_1] 29 (0, 0)) (bk BK422)) (g := gb423) (o := .cells #[.int .i64 0, .int .i64 0] 29 (0, 0)) (bk BK423)) (below_size (bw HB))); replace BK422 := Aside0.mk (bb BK422 hb); replace BK423 := Aside0.mk (bb BK423 hb); replace HB := Aside0.mk (below_step (bw HB) hb); clear hb ho60; obtain ⟨Ao61, co61, eo61⟩ := Kd.R_slice HO426.out; subst eo61) | ((with_reducible refine gate_callee (f := 50) rfl ?_); refine goesL_ (some 16) rfl rfl Try.func50 (by kernel_rfl) rfl #[.int .i64 a0, .int .i64 0, .slice Ao61 y424.length co61] rfl (by (try simp only [List.map_toArray, List.map_cons, List.map_nil]); first | done | rfl | (simp only [List.length_drop, List.length_take]; rfl)) ?_; (with_reducible refine (reals_check.calls k a0 0 _ _ y424 t427 t428 _ ?side1 ?side2 A4.out).mono ?_); (case side1 => repeat (first | exact (Kd.R_reads' HO426.out).2.2 | (with_reducible refine Kd.C_alloc ?_ _) | (with_reducible refine Kd.C_drewN ?_ _) | (with_reducible refine Kd.C_drew ?_))); (case side2 => exact (Kd.R_reads' HO426.out).2.1); rintro e w62 ⟨rfl, hb⟩; refine ⟨_, rfl, ?_⟩; replace HO426 := Aside0.mk (Kd.R_below (by (with_reducible repeat (first | apply Kd.R_alloc | apply Kd.R_drewN | apply Kd.R_drew)); exact HO426.out) hb); replace BK422 := Aside0.mk (bb BK422 hb); replace BK423 := Aside0.mk (bb BK423 hb); replace HB := Aside0.mk (below_step (bw HB) hb); (try clear hb); (try clear hb2); (try clear hk); (try clear hi); obtain ⟨hcz63_0, hcz63_1, hfz63_0, hfz63_1⟩ := cf2 BK423))
  refine bodyPost_ret (results_ct rfl _ _ gb423 29 #[.int .i64 0, .int .i64 0] (0, 0) _ rfl (by (with_reducible repeat (first | refine blk_drewN ?_ _ | refine blk_drew ?_ | refine blk_alloc ?_ _)); refine blk_put (cs := #[.int .i64 0, .int .i64 0]) ?_ 1 _ rfl; (with_reducible repeat (first | refine blk_drewN ?_ _ | refine blk_drew ?_ | refine blk_alloc ?_ _)); refine blk_put (cs := #[.int .i64 0, .int .i64 0]) ?_ 0 _ rfl; (with_reducible repeat (first | refine blk_drewN ?_ _ | refine blk_drew ?_ | refine blk_alloc ?_ _)); exact BK423.out) Try.underlying29 rfl (by kernel_rfl)) rfl ?_
  exact ⟨by first | rfl | (simp [errW_none, errW_some] <;> rfl) | (simp [*, errW_none, errW_some] <;> rfl), bw HB⟩
end Go.Proofs.Ytamkjpjibkabaaa.PR
