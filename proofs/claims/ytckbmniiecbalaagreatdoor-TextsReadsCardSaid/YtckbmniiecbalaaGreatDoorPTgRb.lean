-- written by a program of this session out of the kit's print (its words and its form)
import Derived.Test.YtckbmniiecbalaaGreatDoorPTgC
import Derived.Test.YtckbmniiecbalaaGreatDoorPTgRa
import Derived.Test.YtckbmniiecbalaaGreatDoorPTsq
import Derived.Test.YtckbmniiecbalaaGreatDoorPTx0
namespace Go.Proofs.YtckbmniiecbalaaGreatDoor.PT
open Go.RowKit Go.Proofs.YtckbmniiecbalaaGreatDoorW.PrintWords Go.Proofs.YtckbmniiecbalaaGreatDoorW.PrintLast Go.Proofs.YtckbmniiecbalaaGreatDoorW.PrintMore
attribute [local go_sem] max2_int min2_int max_two min_two max_three min_three max_four min_four   -- for this text's walks alone
set_option linter.unusedVariables false
set_option linter.unusedSimpArgs false

/-! ### environref02_cut: function 125 -/
def environref02_cut.f (k : Nat) (a0_0 : Bool) (l0_1 : List Int) (a0_2 : Int) (a0_3 : Bool) (a1 : Int) : Option (List Int × Int × Bool) := if a1 > (l0_1.length : Int) then (some ((([] : List Int)), 0, true)) else ((some (([] : List Int) : List Int)).bind fun y553 => (if 0 ≤ a1 then (if a1 ≤ (l0_1.length : Int) then (if y553.length + (l0_1.drop (a1 : Int).toNat).length < 17592186044416 then ((environref02_trim.f k (y553 ++ (l0_1.drop (a1 : Int).toNat))).bind fun t560 => ((some (([] : List Int) : List Int)).bind fun y563 => (if y563.length + (l0_1.take (a1 : Int).toNat).length < 17592186044416 then ((environref02_trim.f k (y563 ++ (l0_1.take (a1 : Int).toNat))).bind fun t570 => ((environref02_shift.f (([5] : List Int)) (wrap64 (a1 - 1))).bind fun t576 => ((environref02_compare.f k t570 t576).bind fun t579 => (if (wrap64 (t579 + 1)) = 1 then (if a0_3 = true then (if (t570.length : Int) > 0 then (some (t560, 2, true)) else (some (t560, 2, a0_3))) else (if (t570.length : Int) > 0 then (some (t560, wrap64 (t579 + 1), true)) else (some (t560, wrap64 (t579 + 1), a0_3)))) else (if (t570.length : Int) > 0 then (some (t560, wrap64 (t579 + 1), true)) else (some (t560, wrap64 (t579 + 1), a0_3))))))) else (none)))) else (none)) else (none)) else (none)))
theorem environref02_cut.mono : ∀ a0 a1 a2 a3 a4 k, LeO (environref02_cut.f k a0 a1 a2 a3 a4) (environref02_cut.f (k + 1) a0 a1 a2 a3 a4) := by
 intro a0 a1 a2 a3 a4 k
 unfold environref02_cut.f
 repeat' first
   | (with_reducible exact LeO.refl _)
   | exact environref02_compare.mono _ _ _
   | exact environref02_trim.mono _ _
   | exact LeO.none _
   | refine LeO.ite ?_ ?_
   | refine LeO.bind ?_ (fun _ => ?_)
def environref02_cut.T3 : Bool × List (List Nat × List Nat) := (true, [([], []), ([], []), ([1], [1]), ([], []), ([2, 3], [2, 3]), ([0, 4], [0, 4]), ([5, 5], [5]), ([], []), ([], []), ([8], [8]), ([], []), ([9, 10], [9, 10]), ([7, 11, 6], [7, 11]), ([12, 12], [12]), ([6, 13, 0, 1, 2, 3, 4, 5, 6], [6]), ([13, 14, 0, 1, 2, 3, 4, 5, 6, 7, 8, 9, 10, 11, 12, 13, 14], [13])])
def environref02_cut.B3 : List Nat := [0, 0, 2, 0, 14, 31, 63, 0, 0, 256, 0, 1792, 4095, 8191, 16383, 32767]
theorem environref02_cut.tab3 : rtab .any (opsOf Tryz.f125 3) = environref02_cut.T3 := by kernel_rfl
theorem environref02_cut.bits3 : waitsOk environref02_cut.T3.2 environref02_cut.B3 = true := by kernel_rfl
def environref02_cut.T7 : Bool × List (List Nat × List Nat) := (true, [([], []), ([], []), ([], []), ([2], [2]), ([3], [3]), ([4], [4]), ([5], [5]), ([6, 5], [5, 6]), ([5, 7], [5, 7]), ([0, 5, 0], [0]), ([1, 9, 0, 1, 9], [1]), ([8, 10, 0, 1, 2, 3, 4, 5, 6, 7, 8, 9, 10], [8])])
def environref02_cut.B7 : List Nat := [0, 0, 0, 4, 12, 28, 60, 124, 252, 61, 575, 2047]
theorem environref02_cut.tab7 : rtab .any (opsOf Tryz.f125 7) = environref02_cut.T7 := by kernel_rfl
theorem environref02_cut.bits7 : waitsOk environref02_cut.T7.2 environref02_cut.B7 = true := by kernel_rfl
set_option maxHeartbeats 8000000 in
set_option maxRecDepth 100000 in
theorem environref02_cut.calls (k : Nat) (a0_0 : Bool) (A0_1 : Option Addr) (c0_1 : Nat) (l0_1 : List Int) (a0_2 : Int) (a0_3 : Bool) (a1 : Int) (r1 : List Int) (r2 : Int) (r3 : Bool) (w : World) (hr0_1 : Kd.C (Kd.int .i64) w A0_1 l0_1.length l0_1) (hc0_1 : l0_1.length ≤ c0_1) (h : environref02_cut.f k a0_0 l0_1 a0_2 a0_3 a1 = some (r1, r2, r3)) :
  Calls Tryz.prog 125 #[.agg #[.bool a0_0, .slice A0_1 l0_1.length c0_1, .int .i64 a0_2, .bool a0_3], .int .i64 a1] w fun e w' => ∃ v0_ : Value, e = .returned (.tuple #[v0_, .int .i64 r2, .bool r3]) ∧ Kd.V (Kd.int .i64) 3 w' w.heap.size (fun k_ => (w.heap.size ≤ k_)) v0_ r1 ∧ Below w.heap.size w w' := by
 have hu123 := Tryz.underlying123
 have HR0_1 := Aside0.mk hr0_1
 have HC0_1 := Aside0.mk hc0_1
 clear hr0_1 hc0_1
 have HB := Aside0.mk (Below.refl w.heap.size w)
 have H : (if a1 > (l0_1.length : Int) then (some ((([] : List Int)), 0, true)) else ((some (([] : List Int) : List Int)).bind fun y553 => (if 0 ≤ a1 then (if a1 ≤ (l0_1.length : Int) then (if y553.length + (l0_1.drop (a1 : Int).toNat).length < 17592186044416 then ((environref02_trim.f k (y553 ++ (l0_1.drop (a1 : Int).toNat))).bind fun t560 => ((some (([] : List Int) : List Int)).bind fun y563 => (if y563.length + (l0_1.take (a1 : Int).toNat).length < 17592186044416 then ((environref02_trim.f k (y563 ++ (l0_1.take (a1 : Int).toNat))).bind fun t570 => ((environref02_shift.f (([5] : List Int)) (wrap64 (a1 - 1))).bind fun t576 => ((environref02_compare.f k t570 t576).bind fun t579 => (if (wrap64 (t579 + 1)) = 1 then (if a0_3 = true then (if (t570.length : Int) > 0 then (some (t560, 2, true)) else (some (t560, 2, a0_3))) else (if (t570.length : Int) > 0 then (some (t560, wrap64 (t579 + 1), true)) else (some (t560, wrap64 (t579 + 1), a0_3)))) else (if (t570.length : Int) > 0 then (some (t560, wrap64 (t579 + 1), true)) else (some (t560, wrap64 (t579 + 1), a0_3))))))) else (none)))) else (none)) else (none)) else (none)))) = some (r1, r2, r3) := h
 clear h
 by_cases c3 : a1 > (l0_1.length : Int)
 ·rw [if_pos c3] at H
  have c3b0 := decide_eq_true c3
  clear c3
  obtain ⟨y550, hy550⟩ : ∃ y_ : List Int, y_ = (([] : List Int)) := ⟨_, rfl⟩
  replace H : (some (y550, 0, true)) = some (r1, r2, r3) := by first | (rw [hy550]; with_reducible exact H) | (have H2_ := (Option.bind_some _ _).symm.trans H; rw [hy550]; with_reducible exact H2_) | (have H2_ := (Option.bind_some _ _).symm.trans H; with_reducible exact H2_) | with_reducible exact H | (rw [hy550]; exact H) | exact H
  have Ny550 := Aside0.mk hy550
  clear hy550
  simp only [Option.some.injEq, Prod.mk.injEq] at H
  obtain ⟨rfl, rfl, rfl⟩ := H
  go_enter Tryz.func125, Tryz.ntmps125
  go_wp2_with (first | ((with_reducible refine gate_dst (N := 2) rfl ?_); refine box_event ?hg (N := 2) ?hd (cs := #[.bool a0_0, .slice A0_1 l0_1.length c0_1, .int .i64 a0_2, .bool a0_3]) (t := 123) ?hr ?_; (case hd => rfl); (case hg => rfl); (case hr => first | (go_simp; done) | (go_simp; rfl)); intro gb549 hg w4 hbox hb; have BK549 := Aside0.mk (hbox); have GW549 := Aside0.mk (bs HB hg : w.heap.size ≤ gb549); replace HB := bt_ HB hb; clear hb hbox hg; obtain ⟨hcz5_0, hcz5_1, hcz5_2, hcz5_3, hfz5_0, hfz5_1, hfz5_2, hfz5_3⟩ := cf4 BK549) | ((with_reducible refine gate_dst (N := 15) rfl ?_); refine Kd.R_lit (Kd.int .i64) _ 3 ?hg (N := 15) ?hd (xs := ([] : List Int)) (inner := []) (ok := fun _ => True) (okp := fun _ => True) ?hr ?hp (fun _ hk => hk) trivial (Below.refl _ _) (Nat.le_refl _) (by simp) ?_; (case hd => rfl); (case hg => rfl); (case hr => first | (go_simp; done) | (go_simp; rfl)); (case hp => exact (Reps.none _ _)); intro v551 w6 ho7 hb hg_ hnew_; clear hg_ hnew_; (first | rw [← Ny550.out] at ho7 | (simp only [Int.reduceToNat] at ho7; rw [← Ny550.out] at ho7)); have HO552 := Aside0.mk (Kd.R_lower (Kd.R_newM (M := fun k_ => (w.heap.size ≤ k_)) ho7 (below_size (bw HB)) (fun k_ h_ => h_)) (below_size (bw HB))); replace BK549 := Aside0.mk (bb BK549 hb); replace HB := bt_ HB hb; clear hb ho7))
  go_ret3
  exact ⟨_, by first | rfl | (simp [errW_none, errW_some] <;> rfl) | (simp [*, errW_none, errW_some] <;> rfl), Kd.R_V (by (with_reducible repeat (first | apply Kd.R_alloc | apply Kd.R_drewN | apply Kd.R_drew)); exact Kd.R_mono HO552.out (fun _ hk => hk.1)), bw HB⟩
 ·rw [if_neg c3] at H
  have c3b0 := decide_eq_false c3
  clear c3
  obtain ⟨y553, hy553⟩ : ∃ y_ : List Int, y_ = (([] : List Int)) := ⟨_, rfl⟩
  replace H : (if 0 ≤ a1 then (if a1 ≤ (l0_1.length : Int) then (if y553.length + (l0_1.drop (a1 : Int).toNat).length < 17592186044416 then ((environref02_trim.f k (y553 ++ (l0_1.drop (a1 : Int).toNat))).bind fun t560 => ((some (([] : List Int) : List Int)).bind fun y563 => (if y563.length + (l0_1.take (a1 : Int).toNat).length < 17592186044416 then ((environref02_trim.f k (y563 ++ (l0_1.take (a1 : Int).toNat))).bind fun t570 => ((environref02_shift.f (([5] : List Int)) (wrap64 (a1 - 1))).bind fun t576 => ((environref02_compare.f k t570 t576).bind fun t579 => (if (wrap64 (t579 + 1)) = 1 then (if a0_3 = true then (if (t570.length : Int) > 0 then (some (t560, 2, true)) else (some (t560, 2, a0_3))) else (if (t570.length : Int) > 0 then (some (t560, wrap64 (t579 + 1), true)) else (some (t560, wrap64 (t579 + 1), a0_3)))) else (if (t570.length : Int) > 0 then (some (t560, wrap64 (t579 + 1), true)) else (some (t560, wrap64 (t579 + 1), a0_3))))))) else (none)))) else (none)) else (none)) else (none)) = some (r1, r2, r3) := by first | (rw [hy553]; with_reducible exact H) | (have H2_ := (Option.bind_some _ _).symm.trans H; rw [hy553]; with_reducible exact H2_) | (have H2_ := (Option.bind_some _ _).symm.trans H; with_reducible exact H2_) | with_reducible exact H | (rw [hy553]; exact H) | exact H
  have Ny553 := Aside0.mk hy553
  clear hy553
  by_cases c8 : 0 ≤ a1
  ·rw [if_pos c8] at H
   have c8b0 := eq_true c8
   have c8b1 := decide_eq_true c8
   clear c8
   by_cases c9 : a1 ≤ (l0_1.length : Int)
   ·rw [if_pos c9] at H
    have c9b0 := eq_true c9
    have c9b1 := decide_eq_true c9
    clear c9
    by_cases c10 : y553.length + (l0_1.drop (a1 : Int).toNat).length < 17592186044416
    ·rw [if_pos c10] at H
     have LMc10 := Aside0.mk c10
     clear c10
     obtain ⟨y557, hy557⟩ : ∃ y_ : List Int, y_ = (y553 ++ (l0_1.drop (a1 : Int).toNat)) := ⟨_, rfl⟩
     replace H : ((environref02_trim.f k y557).bind fun t560 => ((some (([] : List Int) : List Int)).bind fun y563 => (if y563.length + (l0_1.take (a1 : Int).toNat).length < 17592186044416 then ((environref02_trim.f k (y563 ++ (l0_1.take (a1 : Int).toNat))).bind fun t570 => ((environref02_shift.f (([5] : List Int)) (wrap64 (a1 - 1))).bind fun t576 => ((environref02_compare.f k t570 t576).bind fun t579 => (if (wrap64 (t579 + 1)) = 1 then (if a0_3 = true then (if (t570.length : Int) > 0 then (some (t560, 2, true)) else (some (t560, 2, a0_3))) else (if (t570.length : Int) > 0 then (some (t560, wrap64 (t579 + 1), true)) else (some (t560, wrap64 (t579 + 1), a0_3)))) else (if (t570.length : Int) > 0 then (some (t560, wrap64 (t579 + 1), true)) else (some (t560, wrap64 (t579 + 1), a0_3))))))) else (none)))) = some (r1, r2, r3) := by first | (rw [hy557]; with_reducible exact H) | (have H2_ := (Option.bind_some _ _).symm.trans H; rw [hy557]; with_reducible exact H2_) | (have H2_ := (Option.bind_some _ _).symm.trans H; with_reducible exact H2_) | with_reducible exact H | (rw [hy557]; exact H) | exact H
     have Ny557 := Aside0.mk hy557
     clear hy557
     replace H := Option.bind_eq_some_iff.mp H
     obtain ⟨t560, A110, H⟩ := H
     try dsimp only at H
     have A11 := Aside0.mk A110
     clear A110
     obtain ⟨y563, hy563⟩ : ∃ y_ : List Int, y_ = (([] : List Int)) := ⟨_, rfl⟩
     replace H : (if y563.length + (l0_1.take (a1 : Int).toNat).length < 17592186044416 then ((environref02_trim.f k (y563 ++ (l0_1.take (a1 : Int).toNat))).bind fun t570 => ((environref02_shift.f (([5] : List Int)) (wrap64 (a1 - 1))).bind fun t576 => ((environref02_compare.f k t570 t576).bind fun t579 => (if (wrap64 (t579 + 1)) = 1 then (if a0_3 = true then (if (t570.length : Int) > 0 then (some (t560, 2, true)) else (some (t560, 2, a0_3))) else (if (t570.length : Int) > 0 then (some (t560, wrap64 (t579 + 1), true)) else (some (t560, wrap64 (t579 + 1), a0_3)))) else (if (t570.length : Int) > 0 then (some (t560, wrap64 (t579 + 1), true)) else (some (t560, wrap64 (t579 + 1), a0_3))))))) else (none)) = some (r1, r2, r3) := by first | (rw [hy563]; with_reducible exact H) | (have H2_ := (Option.bind_some _ _).symm.trans H; rw [hy563]; with_reducible exact H2_) | (have H2_ := (Option.bind_some _ _).symm.trans H; with_reducible exact H2_) | with_reducible exact H | (rw [hy563]; exact H) | exact H
     have Ny563 := Aside0.mk hy563
     clear hy563
     have c12b0 := eq_true (od : 0 ≤ a1)
     have c13b0 := eq_true (od : a1 ≤ (l0_1.length : Int))
     by_cases c14 : y563.length + (l0_1.take (a1 : Int).toNat).length < 17592186044416
     ·rw [if_pos c14] at H
      have LMc14 := Aside0.mk c14
      clear c14
      obtain ⟨y567, hy567⟩ : ∃ y_ : List Int, y_ = (y563 ++ (l0_1.take (a1 : Int).toNat)) := ⟨_, rfl⟩
      replace H : ((environref02_trim.f k y567).bind fun t570 => ((environref02_shift.f (([5] : List Int)) (wrap64 (a1 - 1))).bind fun t576 => ((environref02_compare.f k t570 t576).bind fun t579 => (if (wrap64 (t579 + 1)) = 1 then (if a0_3 = true then (if (t570.length : Int) > 0 then (some (t560, 2, true)) else (some (t560, 2, a0_3))) else (if (t570.length : Int) > 0 then (some (t560, wrap64 (t579 + 1), true)) else (some (t560, wrap64 (t579 + 1), a0_3)))) else (if (t570.length : Int) > 0 then (some (t560, wrap64 (t579 + 1), true)) else (some (t560, wrap64 (t579 + 1), a0_3))))))) = some (r1, r2, r3) := by first | (rw [hy567]; with_reducible exact H) | (have H2_ := (Option.bind_some _ _).symm.trans H; rw [hy567]; with_reducible exact H2_) | (have H2_ := (Option.bind_some _ _).symm.trans H; with_reducible exact H2_) | with_reducible exact H | (rw [hy567]; exact H) | exact H
      have Ny567 := Aside0.mk hy567
      clear hy567
      replace H := Option.bind_eq_some_iff.mp H
      obtain ⟨t570, A150, H⟩ := H
      try dsimp only at H
      have A15 := Aside0.mk A150
      clear A150
      obtain ⟨y573, hy573⟩ : ∃ y_ : List Int, y_ = (([5] : List Int)) := ⟨_, rfl⟩
      replace H : ((environref02_shift.f y573 (wrap64 (a1 - 1))).bind fun t576 => ((environref02_compare.f k t570 t576).bind fun t579 => (if (wrap64 (t579 + 1)) = 1 then (if a0_3 = true then (if (t570.length : Int) > 0 then (some (t560, 2, true)) else (some (t560, 2, a0_3))) else (if (t570.length : Int) > 0 then (some (t560, wrap64 (t579 + 1), true)) else (some (t560, wrap64 (t579 + 1), a0_3)))) else (if (t570.length : Int) > 0 then (some (t560, wrap64 (t579 + 1), true)) else (some (t560, wrap64 (t579 + 1), a0_3)))))) = some (r1, r2, r3) := by first | (rw [hy573]; with_reducible exact H) | (have H2_ := (Option.bind_some _ _).symm.trans H; rw [hy573]; with_reducible exact H2_) | (have H2_ := (Option.bind_some _ _).symm.trans H; with_reducible exact H2_) | with_reducible exact H | (rw [hy573]; exact H) | exact H
      have Ny573 := Aside0.mk hy573
      clear hy573
      replace H := Option.bind_eq_some_iff.mp H
      obtain ⟨t576, A160, H⟩ := H
      try dsimp only at H
      have A16 := Aside0.mk A160
      clear A160
      replace H := Option.bind_eq_some_iff.mp H
      obtain ⟨t579, A170, H⟩ := H
      try dsimp only at H
      have A17 := Aside0.mk A170
      clear A170
      have HH_ := Aside0.mk H
      clear H
      go_enter Tryz.func125, Tryz.ntmps125
      try go_wp2_with (first | ((with_reducible refine gate_dst (N := 2) rfl ?_); refine box_event ?hg (N := 2) ?hd (cs := #[.bool a0_0, .slice A0_1 l0_1.length c0_1, .int .i64 a0_2, .bool a0_3]) (t := 123) ?hr ?_; (case hd => rfl); (case hg => rfl); (case hr => first | (go_simp; done) | (go_simp; rfl)); intro gb549 hg w119 hbox hb; have BK549 := Aside0.mk (hbox); have GW549 := Aside0.mk (bs HB hg : w.heap.size ≤ gb549); replace HB := bt_ HB hb; clear hb hbox hg; obtain ⟨hcz120_0, hcz120_1, hcz120_2, hcz120_3, hfz120_0, hfz120_1, hfz120_2, hfz120_3⟩ := cf4 BK549))
      replace BK549 := Aside0.mk (blk_drew BK549.out)
      replace HB := Aside0.mk (below_drew1 HB.out)
      obtain ⟨i0122, hi0122, _, hsz122, _⟩ := info_parts info3
      obtain ⟨A122, hcut122, hA122, hC122⟩ := print_drop_of (P := Tryz.prog) (Value.int .i64) 0 68 3 .i64 Tryz.underlying68 hi0122 hsz122 A0_1 c0_1 l0_1 a1 (od) (od) HC0_1.out
      have HR556 := Aside0.mk (Kd.C_of_reads (h1 := fun _ => rfl) (hA122 _ (Kd.reads_of_C HR0_1.out)))
      have HC556 := Aside0.mk hC122
      clear hA122 hC122 hi0122 hsz122
      obtain ⟨i0123, hi0123, _, hsz123, _⟩ := info_parts info3
      obtain ⟨hcut123, hA123, hC123⟩ := print_take_of (P := Tryz.prog) (Value.int .i64) 0 68 3 .i64 Tryz.underlying68 hi0123 hsz123 A0_1 c0_1 l0_1 a1 (od) (od) HC0_1.out
      have HR566 := Aside0.mk (Kd.C_of_reads (h1 := fun _ => rfl) (hA123 _ (Kd.reads_of_C HR0_1.out)))
      have HC566 := Aside0.mk hC123
      clear hA123 hC123 hi0123 hsz123
      refine start_ (n := 16) (S := fun w' => w'.cell? ⟨gb549, 0, none⟩ = some (.bool a0_0) ∧ w'.cell? ⟨gb549, 1, none⟩ = some (.slice A0_1 l0_1.length c0_1) ∧ w'.cell? ⟨gb549, 2, none⟩ = some (.int .i64 a0_2) ∧ w'.cell? ⟨gb549, 3, none⟩ = some (.bool a0_3)) (ds := []) #[false, false, false, false, false, false, false, false, false, false, false, false, false, false, false, false] (by kernel_rfl) rfl rfl ⟨(blk_cell BK549.out 0).trans rfl, (blk_cell BK549.out 1).trans rfl, (blk_cell BK549.out 2).trans rfl, (blk_cell BK549.out 3).trans rfl⟩ (fun hHeld => ?_); refine with_tabW environref02_cut.tab3 environref02_cut.bits3 (fun HT_ HW_ => ?_)
      generalize w119.drew = w121 at BK549 HB HR556 HR566 hHeld ⊢
      refine pu 1 17 (bl 16 2) HT_ ?_
      refine pu 3 19 (bl 16 10) HT_ ?_
      refine pu 8 24 (bl 16 266) HT_ ?_
      refine pu 10 26 (bl 16 1290) HT_ ?_
      refine ta 2 18 (bl 16 1294) HT_ HW_ hHeld ?_
      refine pu 4 20 (bl 16 1310) HT_ ?_
      refine ta 9 25 (bl 16 1822) HT_ HW_ hHeld ?_
      refine pu 11 27 (bl 16 3870) HT_ ?_
      refine join_ (σ := Value × Value × Value × Value) 4 #[true, true, true, true, true, true, true, true, true, true, true, true, false, false, false, false] (fun s_ => [(16, s_.1), (21, s_.2.1), (22, s_.2.2.1), (23, s_.2.2.2)]) (fun s_ w' => (w'.cell? ⟨gb549, 0, none⟩ = some (.bool a0_0) ∧ w'.cell? ⟨gb549, 1, none⟩ = some (.slice A0_1 l0_1.length c0_1) ∧ w'.cell? ⟨gb549, 2, none⟩ = some (.int .i64 a0_2) ∧ w'.cell? ⟨gb549, 3, none⟩ = some (.bool a0_3)) ∧ (Kd.R (Kd.int .i64) 3 w' w.heap.size (fun k_ => (w.heap.size ≤ k_) ∧ some k_ ≠ (s_.2.2.2 : Value).ownBlock) s_.2.1 y557) ∧ (Kd.V (Kd.int .i64) 3 w' w.heap.size (fun k_ => (w.heap.size ≤ k_) ∧ some k_ ≠ (s_.2.2.2 : Value).ownBlock ∧ k_ ≠ gb549) s_.2.2.1 t560) ∧ (Kd.R (Kd.int .i64) 3 w' w.heap.size (fun k_ => (w.heap.size ≤ k_) ∧ some k_ ≠ (s_.2.1 : Value).ownBlock) s_.2.2.2 y563) ∧ (w'.heap[gb549]? = some (.cells #[.bool a0_0, .slice A0_1 l0_1.length c0_1, .int .i64 a0_2, .bool a0_3] 123 (0, 0))) ∧ (Below w.heap.size w w')) ?_ ?_
      rotate_left
      ·intro hCont
       refine two_ (i := 0) (j := 7) (Ni := some 16) (Nj := some 23) #[true, true, true, true, true, false, false, false, true, true, true, true, false, false, false, false] #[false, true, true, true, true, false, false, true, true, true, true, true, false, false, false, false] rfl rfl rfl rfl (two_of HT_.out (by kernel_rfl)) (by decide) (by decide) (fun K hK => ?_) (fun K hK => ?_)
       ·skip
        refine Kd.R_lit_step (Kd.int .i64) _ 3 ?hg (N := 16) ?hd (xs := ([] : List Int)) (inner := []) (ok := fun _ => True) (okp := fun _ => True) ?hr ?hp (fun _ hk => hk) trivial (Below.refl _ _) (Nat.le_refl _) (by simp) ?_; (case hd => rfl); (case hg => rfl); (case hr => first | (go_simp; done) | (go_simp; rfl)); (case hp => exact (Reps.none _ _))
        intro v554 w124 ho125 hb hg_ hnew_
        clear hg_ hnew_
        (first | rw [← Ny553.out] at ho125 | (simp only [Int.reduceToNat] at ho125; rw [← Ny553.out] at ho125))
        have HO555 := Aside0.mk (Kd.R_lower (Kd.R_newM (M := fun k_ => (w.heap.size ≤ k_)) ho125 (below_size (bw HB)) (fun k_ h_ => h_)) (below_size (bw HB)))
        replace BK549 := Aside0.mk (bb BK549 hb)
        replace HB := bt_ HB hb
        clear hb ho125
        refine hK.out _ _ ⟨(blk_cell BK549.out 0).trans rfl, (blk_cell BK549.out 1).trans rfl, (blk_cell BK549.out 2).trans rfl, (blk_cell BK549.out 3).trans rfl⟩ (fun hHeld => ?_)
        clear hK K
        refine norm_ (a' := ?_) ?_ ?_
        rotate_left
        ·show Act.put _ (some 16) _ = _
         simp only [sx, i64_w, i32_w]
         rfl
        refine two_ (i := 5) (j := 7) (Ni := some 21) (Nj := some 23) #[true, true, true, true, true, true, false, false, true, true, true, true, false, false, false, false] #[true, true, true, true, true, false, false, true, true, true, true, true, false, false, false, false] rfl rfl rfl rfl (two_of HT_.out (by kernel_rfl)) (by decide) (by decide) (fun K hK => ?_) (fun K hK => ?_)
        ·skip
         refine Kd.R_append_rows_step (Kd.int .i64) (w0 := w) w.heap.size (by rfl) (.tmp 16) (.tmp 20) 68 3 (.int .i64 0) 8 rfl Tryz.underlying68 info3 rfl (by decide) (by omega) v554 y553 (l0_1.drop (a1 : Int).toNat) _ _ _ (fun k_ => (w.heap.size ≤ k_)) (fun _ => False) rfl rfl ?aO ?aR (fun _ _ h => h) (fun _ h => h.elim) ?aF ?aB ?aS ?aL ?_
         (case aR => first | (rw [← show (l0_1.drop (a1 : Int).toNat).length = (l0_1.length - a1.toNat) from List.length_drop]; repeat (first | exact (Kd.C_below HR556.out HB.out) | (with_reducible refine Kd.C_alloc ?_ _) | (with_reducible refine Kd.C_drewN ?_ _) | (with_reducible refine Kd.C_drew ?_))) | (repeat (first | exact (Kd.C_below HR556.out HB.out) | (with_reducible refine Kd.C_alloc ?_ _) | (with_reducible refine Kd.C_drewN ?_ _) | (with_reducible refine Kd.C_drew ?_))))
         (case aB => exact (bw HB))
         (case aF => exact (fun k_ hk => (Nat.le_trans (below_size (bw HB)) hk)))
         (case aO => exact (by (with_reducible repeat (first | apply Kd.R_alloc | apply Kd.R_drewN | apply Kd.R_drew)); exact Kd.R_mono HO555.out (fun _ hk => hk.1)))
         (case aS => exact (below_size (bw HB)))
         (case aL => have := LMc10.out; have hlx_ := (show (l0_1.drop (a1 : Int).toNat).length = (l0_1.length - a1.toNat) from List.length_drop); omega)
         intro v558 w126 ho hb hg hat
         rw [← Ny557.out] at ho
         replace BK549 := Aside0.mk (blk_grown (g := gb549) (o := .cells #[.bool a0_0, .slice A0_1 l0_1.length c0_1, .int .i64 a0_2, .bool a0_3] 123 (0, 0)) (bk BK549) hg (Kd.R_ne HO555.out BK549.out (by decide)))
         replace HB := Aside0.mk (hb)
         have HO559 := Aside0.mk (ho)
         clear HO555
         clear ho hb hg hat
         obtain ⟨Ao127, co127, eo127⟩ := Kd.R_slice HO559.out
         (first | subst eo127 | (injection eo127 with f1_ f2_ f3_; have f4_ := f1_.symm; have f5_ := f3_.symm; clear f1_ f2_ f3_; subst f4_; subst f5_))
         refine hK.out _ _ ⟨(blk_cell BK549.out 0).trans rfl, (blk_cell BK549.out 1).trans rfl, (blk_cell BK549.out 2).trans rfl, (blk_cell BK549.out 3).trans rfl⟩ (fun hHeld => ?_)
         clear hK K
         refine norm_ (a' := ?_) ?_ ?_
         rotate_left
         ·show Act.put _ (some 21) _ = _
          simp only [sx, i64_w, i32_w]
          rfl
         refine two_ (i := 6) (j := 7) (Ni := some 22) (Nj := some 23) #[true, true, true, true, true, true, true, false, true, true, true, true, false, false, false, false] #[true, true, true, true, true, true, false, true, true, true, true, true, false, false, false, false] rfl rfl rfl rfl (two_of HT_.out (by kernel_rfl)) (by decide) (by decide) (fun K hK => ?_) (fun K hK => ?_)
         ·skip
          refine goes_ Tryz.func144 (by kernel_rfl) rfl #[.slice Ao127 y557.length co127] (by rfl) rfl rfl (by (try simp only [List.map_toArray, List.map_cons, List.map_nil]); first | done | rfl | (simp only [List.length_drop, List.length_take]; rfl)) ?_
          with_reducible refine (environref02_trim.calls k (fun k_ => some k_ = (.slice Ao127 y557.length co127 : Value).ownBlock) _ _ y557 t560 _ ?side1 A11.out).mono ?_
          (case side1 => exact Kd.R_V (Kd.R_tight rfl (Kd.R_types (HO559.out) BK549.out (by decide))))
          rintro e w128 ⟨v561, rfl, ho0, hb⟩
          refine ⟨_, rfl, ?_⟩
          have HO562 := Aside0.mk (Kd.V_lower (Kd.V_mono (ok' := fun k_ => (w.heap.size ≤ k_) ∧ k_ ≠ gb549) ho0 (fun k_ hk_ => ⟨Or.elim hk_ (fun hs_ => ((Kd.R_types (HO559.out) BK549.out (by decide)).1 k_ hs_.symm).1) (fun hn_ => (Nat.le_trans (below_size (bw HB)) hn_)), Or.elim hk_ (fun hs_ => ((Kd.R_types (HO559.out) BK549.out (by decide)).1 k_ hs_.symm).2) (fun hn_ => (Kd.freshB (g := gb549) (o := .cells #[.bool a0_0, .slice A0_1 l0_1.length c0_1, .int .i64 a0_2, .bool a0_3] 123 (0, 0)) (bk BK549) k_ hn_))⟩)) (below_size (bw HB)))
          replace HO559 := Aside0.mk (Kd.R_below (by (with_reducible repeat (first | apply Kd.R_alloc | apply Kd.R_drewN | apply Kd.R_drew)); exact HO559.out) hb)
          replace BK549 := Aside0.mk (bb BK549 hb)
          replace HB := bt_ HB hb
          (try clear hb)
          (try clear hb2)
          (try clear hk)
          (try clear hi)
          (try clear ho0)
          refine hK.out _ _ ⟨(blk_cell BK549.out 0).trans rfl, (blk_cell BK549.out 1).trans rfl, (blk_cell BK549.out 2).trans rfl, (blk_cell BK549.out 3).trans rfl⟩ (fun hHeld => ?_)
          clear hK K
          refine norm_ (a' := ?_) ?_ ?_
          rotate_left
          ·show Act.put _ (some 22) _ = _
           simp only [sx, i64_w, i32_w]
           rfl
          refine one_ (i := 7) (N := some 23) #[true, true, true, true, true, true, true, true, true, true, true, true, false, false, false, false] rfl rfl (one_of HT_.out (by kernel_rfl)) (by decide) (fun K hK => ?_)
          refine Kd.R_lit_step (Kd.int .i64) _ 3 ?hg (N := 23) ?hd (xs := ([] : List Int)) (inner := []) (ok := fun _ => True) (okp := fun _ => True) ?hr ?hp (fun _ hk => hk) trivial (Below.refl _ _) (Nat.le_refl _) (by simp) ?_; (case hd => rfl); (case hg => rfl); (case hr => first | (go_simp; done) | (go_simp; rfl)); (case hp => exact (Reps.none _ _))
          intro v564 w129 ho130 hb hg_ hnew_
          clear hg_ hnew_
          (first | rw [← Ny563.out] at ho130 | (simp only [Int.reduceToNat] at ho130; rw [← Ny563.out] at ho130))
          replace HO562 := Aside0.mk (Kd.V_elder' (by (with_reducible repeat (first | apply Kd.V_alloc | apply Kd.V_drewN | apply Kd.V_drew)); exact HO562.out) (Kd.R_base ho130) hb)
          have HO565 := Aside0.mk (Kd.R_lower (Kd.R_new' (Kd.R_newM (M := fun k_ => (w.heap.size ≤ k_)) ho130 (below_size (bw HB)) (fun k_ h_ => h_)) (Kd.R_lt (by (with_reducible repeat (first | apply Kd.R_alloc | apply Kd.R_drewN | apply Kd.R_drew)); exact HO559.out))) (below_size (bw HB)))
          replace HO559 := Aside0.mk (Kd.R_elder' (by (with_reducible repeat (first | apply Kd.R_alloc | apply Kd.R_drewN | apply Kd.R_drew)); exact HO559.out) (Kd.R_base ho130) hb)
          replace BK549 := Aside0.mk (bb BK549 hb)
          replace HB := bt_ HB hb
          clear hb ho130
          refine hK.out _ _ ⟨(blk_cell BK549.out 0).trans rfl, (blk_cell BK549.out 1).trans rfl, (blk_cell BK549.out 2).trans rfl, (blk_cell BK549.out 3).trans rfl⟩ (fun hHeld => ?_)
          clear hK K
          refine norm_ (a' := ?_) ?_ ?_
          rotate_left
          ·show Act.put _ (some 23) _ = _
           simp only [sx, i64_w, i32_w]
           rfl
          exact norm_ (by simp only [putAll, sx]) (hCont (v554, .slice Ao127 y557.length co127, v561, v564) _ ⟨hHeld, (by (with_reducible repeat (first | apply Kd.R_alloc | apply Kd.R_drewN | apply Kd.R_drew)); exact HO559.out), (by (with_reducible repeat (first | apply Kd.V_alloc | apply Kd.V_drewN | apply Kd.V_drew)); exact Kd.V_mono HO562.out (fun _ hk => ⟨hk.1.1, ⟨hk.2, hk.1.2⟩⟩)), (by (with_reducible repeat (first | apply Kd.R_alloc | apply Kd.R_drewN | apply Kd.R_drew)); exact Kd.R_mono HO565.out (fun _ hk => ⟨hk.1.1, hk.2⟩)), (bk BK549), (bw HB)⟩)
         ·skip
          refine Kd.R_lit_step (Kd.int .i64) _ 3 ?hg (N := 23) ?hd (xs := ([] : List Int)) (inner := []) (ok := fun _ => True) (okp := fun _ => True) ?hr ?hp (fun _ hk => hk) trivial (Below.refl _ _) (Nat.le_refl _) (by simp) ?_; (case hd => rfl); (case hg => rfl); (case hr => first | (go_simp; done) | (go_simp; rfl)); (case hp => exact (Reps.none _ _))
          intro v564 w127 ho128 hb hg_ hnew_
          clear hg_ hnew_
          (first | rw [← Ny563.out] at ho128 | (simp only [Int.reduceToNat] at ho128; rw [← Ny563.out] at ho128))
          have HO565 := Aside0.mk (Kd.R_lower (Kd.R_new' (Kd.R_newM (M := fun k_ => (w.heap.size ≤ k_)) ho128 (below_size (bw HB)) (fun k_ h_ => h_)) (Kd.R_lt (by (with_reducible repeat (first | apply Kd.R_alloc | apply Kd.R_drewN | apply Kd.R_drew)); exact HO559.out))) (below_size (bw HB)))
          replace HO559 := Aside0.mk (Kd.R_elder' (by (with_reducible repeat (first | apply Kd.R_alloc | apply Kd.R_drewN | apply Kd.R_drew)); exact HO559.out) (Kd.R_base ho128) hb)
          replace BK549 := Aside0.mk (bb BK549 hb)
          replace HB := bt_ HB hb
          clear hb ho128
          obtain ⟨Ao129, co129, eo129⟩ := Kd.R_slice HO559.out
          (first | subst eo129 | (injection eo129 with f1_ f2_ f3_; have f4_ := f1_.symm; have f5_ := f3_.symm; clear f1_ f2_ f3_; subst f4_; subst f5_))
          refine hK.out _ _ ⟨(blk_cell BK549.out 0).trans rfl, (blk_cell BK549.out 1).trans rfl, (blk_cell BK549.out 2).trans rfl, (blk_cell BK549.out 3).trans rfl⟩ (fun hHeld => ?_)
          clear hK K
          refine norm_ (a' := ?_) ?_ ?_
          rotate_left
          ·show Act.put _ (some 23) _ = _
           simp only [sx, i64_w, i32_w]
           rfl
          refine one_ (i := 6) (N := some 22) #[true, true, true, true, true, true, true, true, true, true, true, true, false, false, false, false] rfl rfl (one_of HT_.out (by kernel_rfl)) (by decide) (fun K hK => ?_)
          refine goes_ Tryz.func144 (by kernel_rfl) rfl #[.slice Ao129 y557.length co129] (by rfl) rfl rfl (by (try simp only [List.map_toArray, List.map_cons, List.map_nil]); first | done | rfl | (simp only [List.length_drop, List.length_take]; rfl)) ?_
          with_reducible refine (environref02_trim.calls k (fun k_ => some k_ = (.slice Ao129 y557.length co129 : Value).ownBlock) _ _ y557 t560 _ ?side1 A11.out).mono ?_
          (case side1 => exact Kd.R_V (Kd.R_tight rfl (Kd.R_types (HO559.out) BK549.out (by decide))))
          rintro e w130 ⟨v561, rfl, ho0, hb⟩
          refine ⟨_, rfl, ?_⟩
          have HO562 := Aside0.mk (Kd.V_lower (Kd.V_mono (ok' := fun k_ => (w.heap.size ≤ k_) ∧ some k_ ≠ (v564 : Value).ownBlock ∧ k_ ≠ gb549) ho0 (fun k_ hk_ => ⟨Or.elim hk_ (fun hs_ => ((Kd.R_types (HO559.out) BK549.out (by decide)).1 k_ hs_.symm).1.1) (fun hn_ => (Nat.le_trans (below_size (bw HB)) hn_)), Or.elim hk_ (fun hs_ => ((Kd.R_types (HO559.out) BK549.out (by decide)).1 k_ hs_.symm).1.2) (fun hn_ => (Kd.fresh' (Kd.R_lt (by (with_reducible repeat (first | apply Kd.R_alloc | apply Kd.R_drewN | apply Kd.R_drew)); exact HO565.out)) k_ hn_)), Or.elim hk_ (fun hs_ => ((Kd.R_types (HO559.out) BK549.out (by decide)).1 k_ hs_.symm).2) (fun hn_ => (Kd.freshB (g := gb549) (o := .cells #[.bool a0_0, .slice A0_1 l0_1.length c0_1, .int .i64 a0_2, .bool a0_3] 123 (0, 0)) (bk BK549) k_ hn_))⟩)) (below_size (bw HB)))
          replace HO559 := Aside0.mk (Kd.R_below (by (with_reducible repeat (first | apply Kd.R_alloc | apply Kd.R_drewN | apply Kd.R_drew)); exact HO559.out) hb)
          replace HO565 := Aside0.mk (Kd.R_below (by (with_reducible repeat (first | apply Kd.R_alloc | apply Kd.R_drewN | apply Kd.R_drew)); exact HO565.out) hb)
          replace BK549 := Aside0.mk (bb BK549 hb)
          replace HB := bt_ HB hb
          (try clear hb)
          (try clear hb2)
          (try clear hk)
          (try clear hi)
          (try clear ho0)
          refine hK.out _ _ ⟨(blk_cell BK549.out 0).trans rfl, (blk_cell BK549.out 1).trans rfl, (blk_cell BK549.out 2).trans rfl, (blk_cell BK549.out 3).trans rfl⟩ (fun hHeld => ?_)
          clear hK K
          refine norm_ (a' := ?_) ?_ ?_
          rotate_left
          ·show Act.put _ (some 22) _ = _
           simp only [sx, i64_w, i32_w]
           rfl
          exact norm_ (by simp only [putAll, sx]) (hCont (v554, .slice Ao129 y557.length co129, v561, v564) _ ⟨hHeld, (by (with_reducible repeat (first | apply Kd.R_alloc | apply Kd.R_drewN | apply Kd.R_drew)); exact HO559.out), (by (with_reducible repeat (first | apply Kd.V_alloc | apply Kd.V_drewN | apply Kd.V_drew)); exact HO562.out), (by (with_reducible repeat (first | apply Kd.R_alloc | apply Kd.R_drewN | apply Kd.R_drew)); exact Kd.R_mono HO565.out (fun _ hk => ⟨hk.1.1, hk.2⟩)), (bk BK549), (bw HB)⟩)
        ·skip
         refine Kd.R_lit_step (Kd.int .i64) _ 3 ?hg (N := 23) ?hd (xs := ([] : List Int)) (inner := []) (ok := fun _ => True) (okp := fun _ => True) ?hr ?hp (fun _ hk => hk) trivial (Below.refl _ _) (Nat.le_refl _) (by simp) ?_; (case hd => rfl); (case hg => rfl); (case hr => first | (go_simp; done) | (go_simp; rfl)); (case hp => exact (Reps.none _ _))
         intro v564 w126 ho127 hb hg_ hnew_
         clear hg_ hnew_
         (first | rw [← Ny563.out] at ho127 | (simp only [Int.reduceToNat] at ho127; rw [← Ny563.out] at ho127))
         have HO565 := Aside0.mk (Kd.R_lower (Kd.R_new' (Kd.R_newM (M := fun k_ => (w.heap.size ≤ k_)) ho127 (below_size (bw HB)) (fun k_ h_ => h_)) (Kd.R_lt (by (with_reducible repeat (first | apply Kd.R_alloc | apply Kd.R_drewN | apply Kd.R_drew)); exact HO555.out))) (below_size (bw HB)))
         replace HO555 := Aside0.mk (Kd.R_elder' (by (with_reducible repeat (first | apply Kd.R_alloc | apply Kd.R_drewN | apply Kd.R_drew)); exact HO555.out) (Kd.R_base ho127) hb)
         replace BK549 := Aside0.mk (bb BK549 hb)
         replace HB := bt_ HB hb
         clear hb ho127
         refine hK.out _ _ ⟨(blk_cell BK549.out 0).trans rfl, (blk_cell BK549.out 1).trans rfl, (blk_cell BK549.out 2).trans rfl, (blk_cell BK549.out 3).trans rfl⟩ (fun hHeld => ?_)
         clear hK K
         refine norm_ (a' := ?_) ?_ ?_
         rotate_left
         ·show Act.put _ (some 23) _ = _
          simp only [sx, i64_w, i32_w]
          rfl
         refine one_ (i := 5) (N := some 21) #[true, true, true, true, true, true, false, true, true, true, true, true, false, false, false, false] rfl rfl (one_of HT_.out (by kernel_rfl)) (by decide) (fun K hK => ?_)
         refine Kd.R_append_rows_step (Kd.int .i64) (w0 := w) w.heap.size (by rfl) (.tmp 16) (.tmp 20) 68 3 (.int .i64 0) 8 rfl Tryz.underlying68 info3 rfl (by decide) (by omega) v554 y553 (l0_1.drop (a1 : Int).toNat) _ _ _ (fun k_ => (w.heap.size ≤ k_) ∧ some k_ ≠ (v564 : Value).ownBlock) (fun _ => False) rfl rfl ?aO ?aR (fun _ _ h => h) (fun _ h => h.elim) ?aF ?aB ?aS ?aL ?_
         (case aR => first | (rw [← show (l0_1.drop (a1 : Int).toNat).length = (l0_1.length - a1.toNat) from List.length_drop]; repeat (first | exact (Kd.C_below HR556.out HB.out) | (with_reducible refine Kd.C_alloc ?_ _) | (with_reducible refine Kd.C_drewN ?_ _) | (with_reducible refine Kd.C_drew ?_))) | (repeat (first | exact (Kd.C_below HR556.out HB.out) | (with_reducible refine Kd.C_alloc ?_ _) | (with_reducible refine Kd.C_drewN ?_ _) | (with_reducible refine Kd.C_drew ?_))))
         (case aB => exact (bw HB))
         (case aF => exact (fun k_ hk => ⟨(Nat.le_trans (below_size (bw HB)) hk), Kd.fresh' (Kd.R_lt (by (with_reducible repeat (first | apply Kd.R_alloc | apply Kd.R_drewN | apply Kd.R_drew)); exact HO565.out)) k_ hk⟩))
         (case aO => exact (by (with_reducible repeat (first | apply Kd.R_alloc | apply Kd.R_drewN | apply Kd.R_drew)); exact Kd.R_mono HO555.out (fun _ hk => ⟨hk.1.1, hk.2⟩)))
         (case aS => exact (below_size (bw HB)))
         (case aL => have := LMc10.out; have hlx_ := (show (l0_1.drop (a1 : Int).toNat).length = (l0_1.length - a1.toNat) from List.length_drop); omega)
         intro v558 w128 ho hb hg hat
         rw [← Ny557.out] at ho
         replace BK549 := Aside0.mk (blk_grown (g := gb549) (o := .cells #[.bool a0_0, .slice A0_1 l0_1.length c0_1, .int .i64 a0_2, .bool a0_3] 123 (0, 0)) (bk BK549) hg (Kd.R_ne HO555.out BK549.out (by decide)))
         replace HO565 := Aside0.mk (Kd.R_after (ok := (fun k_ => (w.heap.size ≤ k_))) (by (with_reducible repeat (first | apply Kd.R_alloc | apply Kd.R_drewN | apply Kd.R_drew)); exact Kd.R_mono HO565.out (fun _ hk => ⟨hk.1.1, hk.2⟩)) hg hat)
         replace HB := Aside0.mk (hb)
         have HO559 := Aside0.mk (ho)
         clear HO555
         clear ho hb hg hat
         obtain ⟨Ao129, co129, eo129⟩ := Kd.R_slice HO559.out
         (first | subst eo129 | (injection eo129 with f1_ f2_ f3_; have f4_ := f1_.symm; have f5_ := f3_.symm; clear f1_ f2_ f3_; subst f4_; subst f5_))
         refine hK.out _ _ ⟨(blk_cell BK549.out 0).trans rfl, (blk_cell BK549.out 1).trans rfl, (blk_cell BK549.out 2).trans rfl, (blk_cell BK549.out 3).trans rfl⟩ (fun hHeld => ?_)
         clear hK K
         refine norm_ (a' := ?_) ?_ ?_
         rotate_left
         ·show Act.put _ (some 21) _ = _
          simp only [sx, i64_w, i32_w]
          rfl
         refine one_ (i := 6) (N := some 22) #[true, true, true, true, true, true, true, true, true, true, true, true, false, false, false, false] rfl rfl (one_of HT_.out (by kernel_rfl)) (by decide) (fun K hK => ?_)
         refine goes_ Tryz.func144 (by kernel_rfl) rfl #[.slice Ao129 y557.length co129] (by rfl) rfl rfl (by (try simp only [List.map_toArray, List.map_cons, List.map_nil]); first | done | rfl | (simp only [List.length_drop, List.length_take]; rfl)) ?_
         with_reducible refine (environref02_trim.calls k (fun k_ => some k_ = (.slice Ao129 y557.length co129 : Value).ownBlock) _ _ y557 t560 _ ?side1 A11.out).mono ?_
         (case side1 => exact Kd.R_V (Kd.R_tight rfl (Kd.R_types (HO559.out) BK549.out (by decide))))
         rintro e w130 ⟨v561, rfl, ho0, hb⟩
         refine ⟨_, rfl, ?_⟩
         have HO562 := Aside0.mk (Kd.V_lower (Kd.V_mono (ok' := fun k_ => (w.heap.size ≤ k_) ∧ some k_ ≠ (v564 : Value).ownBlock ∧ k_ ≠ gb549) ho0 (fun k_ hk_ => ⟨Or.elim hk_ (fun hs_ => ((Kd.R_types (HO559.out) BK549.out (by decide)).1 k_ hs_.symm).1.1) (fun hn_ => (Nat.le_trans (below_size (bw HB)) hn_)), Or.elim hk_ (fun hs_ => ((Kd.R_types (HO559.out) BK549.out (by decide)).1 k_ hs_.symm).1.2) (fun hn_ => (Kd.fresh' (Kd.R_lt (by (with_reducible repeat (first | apply Kd.R_alloc | apply Kd.R_drewN | apply Kd.R_drew)); exact HO565.out)) k_ hn_)), Or.elim hk_ (fun hs_ => ((Kd.R_types (HO559.out) BK549.out (by decide)).1 k_ hs_.symm).2) (fun hn_ => (Kd.freshB (g := gb549) (o := .cells #[.bool a0_0, .slice A0_1 l0_1.length c0_1, .int .i64 a0_2, .bool a0_3] 123 (0, 0)) (bk BK549) k_ hn_))⟩)) (below_size (bw HB)))
         replace HO565 := Aside0.mk (Kd.R_below (by (with_reducible repeat (first | apply Kd.R_alloc | apply Kd.R_drewN | apply Kd.R_drew)); exact HO565.out) hb)
         replace HO559 := Aside0.mk (Kd.R_below (by (with_reducible repeat (first | apply Kd.R_alloc | apply Kd.R_drewN | apply Kd.R_drew)); exact HO559.out) hb)
         replace BK549 := Aside0.mk (bb BK549 hb)
         replace HB := bt_ HB hb
         (try clear hb)
         (try clear hb2)
         (try clear hk)
         (try clear hi)
         (try clear ho0)
         refine hK.out _ _ ⟨(blk_cell BK549.out 0).trans rfl, (blk_cell BK549.out 1).trans rfl, (blk_cell BK549.out 2).trans rfl, (blk_cell BK549.out 3).trans rfl⟩ (fun hHeld => ?_)
         clear hK K
         refine norm_ (a' := ?_) ?_ ?_
         rotate_left
         ·show Act.put _ (some 22) _ = _
          simp only [sx, i64_w, i32_w]
          rfl
         exact norm_ (by simp only [putAll, sx]) (hCont (v554, .slice Ao129 y557.length co129, v561, v564) _ ⟨hHeld, (by (with_reducible repeat (first | apply Kd.R_alloc | apply Kd.R_drewN | apply Kd.R_drew)); exact HO559.out), (by (with_reducible repeat (first | apply Kd.V_alloc | apply Kd.V_drewN | apply Kd.V_drew)); exact HO562.out), (by (with_reducible repeat (first | apply Kd.R_alloc | apply Kd.R_drewN | apply Kd.R_drew)); exact HO565.out), (bk BK549), (bw HB)⟩)
       ·skip
        refine Kd.R_lit_step (Kd.int .i64) _ 3 ?hg (N := 23) ?hd (xs := ([] : List Int)) (inner := []) (ok := fun _ => True) (okp := fun _ => True) ?hr ?hp (fun _ hk => hk) trivial (Below.refl _ _) (Nat.le_refl _) (by simp) ?_; (case hd => rfl); (case hg => rfl); (case hr => first | (go_simp; done) | (go_simp; rfl)); (case hp => exact (Reps.none _ _))
        intro v564 w124 ho125 hb hg_ hnew_
        clear hg_ hnew_
        (first | rw [← Ny563.out] at ho125 | (simp only [Int.reduceToNat] at ho125; rw [← Ny563.out] at ho125))
        have HO565 := Aside0.mk (Kd.R_lower (Kd.R_newM (M := fun k_ => (w.heap.size ≤ k_)) ho125 (below_size (bw HB)) (fun k_ h_ => h_)) (below_size (bw HB)))
        replace BK549 := Aside0.mk (bb BK549 hb)
        replace HB := bt_ HB hb
        clear hb ho125
        refine hK.out _ _ ⟨(blk_cell BK549.out 0).trans rfl, (blk_cell BK549.out 1).trans rfl, (blk_cell BK549.out 2).trans rfl, (blk_cell BK549.out 3).trans rfl⟩ (fun hHeld => ?_)
        clear hK K
        refine norm_ (a' := ?_) ?_ ?_
        rotate_left
        ·show Act.put _ (some 23) _ = _
         simp only [sx, i64_w, i32_w]
         rfl
        refine one_ (i := 0) (N := some 16) #[true, true, true, true, true, false, false, true, true, true, true, true, false, false, false, false] rfl rfl (one_of HT_.out (by kernel_rfl)) (by decide) (fun K hK => ?_)
        refine Kd.R_lit_step (Kd.int .i64) _ 3 ?hg (N := 16) ?hd (xs := ([] : List Int)) (inner := []) (ok := fun _ => True) (okp := fun _ => True) ?hr ?hp (fun _ hk => hk) trivial (Below.refl _ _) (Nat.le_refl _) (by simp) ?_; (case hd => rfl); (case hg => rfl); (case hr => first | (go_simp; done) | (go_simp; rfl)); (case hp => exact (Reps.none _ _))
        intro v554 w126 ho127 hb hg_ hnew_
        clear hg_ hnew_
        (first | rw [← Ny553.out] at ho127 | (simp only [Int.reduceToNat] at ho127; rw [← Ny553.out] at ho127))
        have HO555 := Aside0.mk (Kd.R_lower (Kd.R_new' (Kd.R_newM (M := fun k_ => (w.heap.size ≤ k_)) ho127 (below_size (bw HB)) (fun k_ h_ => h_)) (Kd.R_lt (by (with_reducible repeat (first | apply Kd.R_alloc | apply Kd.R_drewN | apply Kd.R_drew)); exact HO565.out))) (below_size (bw HB)))
        replace HO565 := Aside0.mk (Kd.R_elder' (by (with_reducible repeat (first | apply Kd.R_alloc | apply Kd.R_drewN | apply Kd.R_drew)); exact HO565.out) (Kd.R_base ho127) hb)
        replace BK549 := Aside0.mk (bb BK549 hb)
        replace HB := bt_ HB hb
        clear hb ho127
        refine hK.out _ _ ⟨(blk_cell BK549.out 0).trans rfl, (blk_cell BK549.out 1).trans rfl, (blk_cell BK549.out 2).trans rfl, (blk_cell BK549.out 3).trans rfl⟩ (fun hHeld => ?_)
        clear hK K
        refine norm_ (a' := ?_) ?_ ?_
        rotate_left
        ·show Act.put _ (some 16) _ = _
         simp only [sx, i64_w, i32_w]
         rfl
        refine one_ (i := 5) (N := some 21) #[true, true, true, true, true, true, false, true, true, true, true, true, false, false, false, false] rfl rfl (one_of HT_.out (by kernel_rfl)) (by decide) (fun K hK => ?_)
        refine Kd.R_append_rows_step (Kd.int .i64) (w0 := w) w.heap.size (by rfl) (.tmp 16) (.tmp 20) 68 3 (.int .i64 0) 8 rfl Tryz.underlying68 info3 rfl (by decide) (by omega) v554 y553 (l0_1.drop (a1 : Int).toNat) _ _ _ (fun k_ => (w.heap.size ≤ k_) ∧ some k_ ≠ (v564 : Value).ownBlock) (fun _ => False) rfl rfl ?aO ?aR (fun _ _ h => h) (fun _ h => h.elim) ?aF ?aB ?aS ?aL ?_
        (case aR => first | (rw [← show (l0_1.drop (a1 : Int).toNat).length = (l0_1.length - a1.toNat) from List.length_drop]; repeat (first | exact (Kd.C_below HR556.out HB.out) | (with_reducible refine Kd.C_alloc ?_ _) | (with_reducible refine Kd.C_drewN ?_ _) | (with_reducible refine Kd.C_drew ?_))) | (repeat (first | exact (Kd.C_below HR556.out HB.out) | (with_reducible refine Kd.C_alloc ?_ _) | (with_reducible refine Kd.C_drewN ?_ _) | (with_reducible refine Kd.C_drew ?_))))
        (case aB => exact (bw HB))
        (case aF => exact (fun k_ hk => ⟨(Nat.le_trans (below_size (bw HB)) hk), Kd.fresh' (Kd.R_lt (by (with_reducible repeat (first | apply Kd.R_alloc | apply Kd.R_drewN | apply Kd.R_drew)); exact HO565.out)) k_ hk⟩))
        (case aO => exact (by (with_reducible repeat (first | apply Kd.R_alloc | apply Kd.R_drewN | apply Kd.R_drew)); exact Kd.R_mono HO555.out (fun _ hk => ⟨hk.1.1, hk.2⟩)))
        (case aS => exact (below_size (bw HB)))
        (case aL => have := LMc10.out; have hlx_ := (show (l0_1.drop (a1 : Int).toNat).length = (l0_1.length - a1.toNat) from List.length_drop); omega)
        intro v558 w128 ho hb hg hat
        rw [← Ny557.out] at ho
        replace BK549 := Aside0.mk (blk_grown (g := gb549) (o := .cells #[.bool a0_0, .slice A0_1 l0_1.length c0_1, .int .i64 a0_2, .bool a0_3] 123 (0, 0)) (bk BK549) hg (Kd.R_ne HO555.out BK549.out (by decide)))
        replace HO565 := Aside0.mk (Kd.R_after (ok := (fun k_ => (w.heap.size ≤ k_))) (by (with_reducible repeat (first | apply Kd.R_alloc | apply Kd.R_drewN | apply Kd.R_drew)); exact Kd.R_mono HO565.out (fun _ hk => ⟨hk.1.1, hk.2⟩)) hg hat)
        replace HB := Aside0.mk (hb)
        have HO559 := Aside0.mk (ho)
        clear HO555
        clear ho hb hg hat
        obtain ⟨Ao129, co129, eo129⟩ := Kd.R_slice HO559.out
        (first | subst eo129 | (injection eo129 with f1_ f2_ f3_; have f4_ := f1_.symm; have f5_ := f3_.symm; clear f1_ f2_ f3_; subst f4_; subst f5_))
        refine hK.out _ _ ⟨(blk_cell BK549.out 0).trans rfl, (blk_cell BK549.out 1).trans rfl, (blk_cell BK549.out 2).trans rfl, (blk_cell BK549.out 3).trans rfl⟩ (fun hHeld => ?_)
        clear hK K
        refine norm_ (a' := ?_) ?_ ?_
        rotate_left
        ·show Act.put _ (some 21) _ = _
         simp only [sx, i64_w, i32_w]
         rfl
        refine one_ (i := 6) (N := some 22) #[true, true, true, true, true, true, true, true, true, true, true, true, false, false, false, false] rfl rfl (one_of HT_.out (by kernel_rfl)) (by decide) (fun K hK => ?_)
        refine goes_ Tryz.func144 (by kernel_rfl) rfl #[.slice Ao129 y557.length co129] (by rfl) rfl rfl (by (try simp only [List.map_toArray, List.map_cons, List.map_nil]); first | done | rfl | (simp only [List.length_drop, List.length_take]; rfl)) ?_
        with_reducible refine (environref02_trim.calls k (fun k_ => some k_ = (.slice Ao129 y557.length co129 : Value).ownBlock) _ _ y557 t560 _ ?side1 A11.out).mono ?_
        (case side1 => exact Kd.R_V (Kd.R_tight rfl (Kd.R_types (HO559.out) BK549.out (by decide))))
        rintro e w130 ⟨v561, rfl, ho0, hb⟩
        refine ⟨_, rfl, ?_⟩
        have HO562 := Aside0.mk (Kd.V_lower (Kd.V_mono (ok' := fun k_ => (w.heap.size ≤ k_) ∧ some k_ ≠ (v564 : Value).ownBlock ∧ k_ ≠ gb549) ho0 (fun k_ hk_ => ⟨Or.elim hk_ (fun hs_ => ((Kd.R_types (HO559.out) BK549.out (by decide)).1 k_ hs_.symm).1.1) (fun hn_ => (Nat.le_trans (below_size (bw HB)) hn_)), Or.elim hk_ (fun hs_ => ((Kd.R_types (HO559.out) BK549.out (by decide)).1 k_ hs_.symm).1.2) (fun hn_ => (Kd.fresh' (Kd.R_lt (by (with_reducible repeat (first | apply Kd.R_alloc | apply Kd.R_drewN | apply Kd.R_drew)); exact HO565.out)) k_ hn_)), Or.elim hk_ (fun hs_ => ((Kd.R_types (HO559.out) BK549.out (by decide)).1 k_ hs_.symm).2) (fun hn_ => (Kd.freshB (g := gb549) (o := .cells #[.bool a0_0, .slice A0_1 l0_1.length c0_1, .int .i64 a0_2, .bool a0_3] 123 (0, 0)) (bk BK549) k_ hn_))⟩)) (below_size (bw HB)))
        replace HO565 := Aside0.mk (Kd.R_below (by (with_reducible repeat (first | apply Kd.R_alloc | apply Kd.R_drewN | apply Kd.R_drew)); exact HO565.out) hb)
        replace HO559 := Aside0.mk (Kd.R_below (by (with_reducible repeat (first | apply Kd.R_alloc | apply Kd.R_drewN | apply Kd.R_drew)); exact HO559.out) hb)
        replace BK549 := Aside0.mk (bb BK549 hb)
        replace HB := bt_ HB hb
        (try clear hb)
        (try clear hb2)
        (try clear hk)
        (try clear hi)
        (try clear ho0)
        refine hK.out _ _ ⟨(blk_cell BK549.out 0).trans rfl, (blk_cell BK549.out 1).trans rfl, (blk_cell BK549.out 2).trans rfl, (blk_cell BK549.out 3).trans rfl⟩ (fun hHeld => ?_)
        clear hK K
        refine norm_ (a' := ?_) ?_ ?_
        rotate_left
        ·show Act.put _ (some 22) _ = _
         simp only [sx, i64_w, i32_w]
         rfl
        exact norm_ (by simp only [putAll, sx]) (hCont (v554, .slice Ao129 y557.length co129, v561, v564) _ ⟨hHeld, (by (with_reducible repeat (first | apply Kd.R_alloc | apply Kd.R_drewN | apply Kd.R_drew)); exact HO559.out), (by (with_reducible repeat (first | apply Kd.V_alloc | apply Kd.V_drewN | apply Kd.V_drew)); exact HO562.out), (by (with_reducible repeat (first | apply Kd.R_alloc | apply Kd.R_drewN | apply Kd.R_drew)); exact HO565.out), (bk BK549), (bw HB)⟩)
      rintro ⟨v554, v558, v561, v564⟩ w131 ⟨hS_, h0_, h1_, h2_, h3_, h4_⟩
      have n0_ : Aside0 (Kd.R (Kd.int .i64) 3 w131 w.heap.size (fun k_ => (w.heap.size ≤ k_) ∧ some k_ ≠ (v564 : Value).ownBlock) v558 y557) := ⟨h0_⟩
      have n1_ : Aside0 (Kd.V (Kd.int .i64) 3 w131 w.heap.size (fun k_ => (w.heap.size ≤ k_) ∧ some k_ ≠ (v564 : Value).ownBlock ∧ k_ ≠ gb549) v561 t560) := ⟨h1_⟩
      have n2_ : Aside0 (Kd.R (Kd.int .i64) 3 w131 w.heap.size (fun k_ => (w.heap.size ≤ k_) ∧ some k_ ≠ (v558 : Value).ownBlock) v564 y563) := ⟨h2_⟩
      have n3_ : Aside0 (w131.heap[gb549]? = some (.cells #[.bool a0_0, .slice A0_1 l0_1.length c0_1, .int .i64 a0_2, .bool a0_3] 123 (0, 0))) := ⟨h3_⟩
      have n4_ : Aside0 (Below w.heap.size w w131) := ⟨h4_⟩
      clear BK549
      clear HB
      clear h0_ h1_ h2_ h3_ h4_
      have HO559 := n0_
      have HO562 := n1_
      have HO565 := n2_
      have BK549 := n3_
      have HB := n4_
      clear n0_ n1_ n2_ n3_ n4_
      have hHeld : w131.cell? ⟨gb549, 0, none⟩ = some (.bool a0_0) ∧ w131.cell? ⟨gb549, 1, none⟩ = some (.slice A0_1 l0_1.length c0_1) ∧ w131.cell? ⟨gb549, 2, none⟩ = some (.int .i64 a0_2) ∧ w131.cell? ⟨gb549, 3, none⟩ = some (.bool a0_3) := hS_
      refine norm_ (a' := ?_) ?_ ?_
      rotate_left
      ·simp only [putAll, sx]
       rfl
      refine one_ (i := 12) (N := some 28) #[true, true, true, true, true, true, true, true, true, true, true, true, true, false, false, false] rfl rfl (one_of HT_.out (by kernel_rfl)) (by decide) (fun K hK => ?_)
      refine Kd.R_append_rows_step (Kd.int .i64) (w0 := w) w.heap.size (by rfl) (.tmp 23) (.tmp 27) 68 3 (.int .i64 0) 8 rfl Tryz.underlying68 info3 rfl (by decide) (by omega) v564 y563 (l0_1.take (a1 : Int).toNat) _ _ _ (fun k_ => (w.heap.size ≤ k_) ∧ some k_ ≠ (v558 : Value).ownBlock) (fun _ => False) rfl rfl ?aO ?aR (fun _ _ h => h) (fun _ h => h.elim) ?aF ?aB ?aS ?aL ?_
      (case aR => have h9_ := (Kd.C_below HR566.out HB.out); rw [show (l0_1.take (a1 : Int).toNat).length = a1.toNat from (by rw [List.length_take]; have h_ : (a1 : Int) ≤ (l0_1.length : Int) := od; omega)] at h9_; repeat (first | exact h9_ | (with_reducible refine Kd.C_alloc ?_ _) | (with_reducible refine Kd.C_drewN ?_ _) | (with_reducible refine Kd.C_drew ?_)))
      (case aB => exact (bw HB))
      (case aF => exact (fun k_ hk => ⟨(Nat.le_trans (below_size (bw HB)) hk), Kd.fresh' (Kd.R_lt (by (with_reducible repeat (first | apply Kd.R_alloc | apply Kd.R_drewN | apply Kd.R_drew)); exact HO559.out)) k_ hk⟩))
      (case aO => exact (by (with_reducible repeat (first | apply Kd.R_alloc | apply Kd.R_drewN | apply Kd.R_drew)); exact HO565.out))
      (case aS => exact (below_size (bw HB)))
      (case aL => have := LMc14.out; have hlx_ := (show (l0_1.take (a1 : Int).toNat).length = a1.toNat from (by rw [List.length_take]; have h_ : (a1 : Int) ≤ (l0_1.length : Int) := od; omega)); omega)
      intro v568 w132 ho hb hg hat
      rw [← Ny567.out] at ho
      replace BK549 := Aside0.mk (blk_grown (g := gb549) (o := .cells #[.bool a0_0, .slice A0_1 l0_1.length c0_1, .int .i64 a0_2, .bool a0_3] 123 (0, 0)) (bk BK549) hg (Kd.R_ne HO565.out BK549.out (by decide)))
      replace HO559 := Aside0.mk (Kd.R_after (ok := (fun k_ => (w.heap.size ≤ k_))) (by (with_reducible repeat (first | apply Kd.R_alloc | apply Kd.R_drewN | apply Kd.R_drew)); exact HO559.out) hg hat)
      replace HO562 := Aside0.mk (Kd.V_afterv (ok := (fun k_ => (w.heap.size ≤ k_) ∧ k_ ≠ gb549)) (by (with_reducible repeat (first | apply Kd.V_alloc | apply Kd.V_drewN | apply Kd.V_drew)); exact Kd.V_mono HO562.out (fun _ hk => ⟨⟨hk.1, hk.2.2⟩, hk.2.1⟩)) hg hat)
      replace HB := Aside0.mk (hb)
      have HO569 := Aside0.mk (ho)
      clear HO565
      clear ho hb hg hat
      obtain ⟨Ao133, co133, eo133⟩ := Kd.R_slice HO569.out
      (first | subst eo133 | (injection eo133 with f1_ f2_ f3_; have f4_ := f1_.symm; have f5_ := f3_.symm; clear f1_ f2_ f3_; subst f4_; subst f5_))
      refine hK.out _ _ ⟨(blk_cell BK549.out 0).trans rfl, (blk_cell BK549.out 1).trans rfl, (blk_cell BK549.out 2).trans rfl, (blk_cell BK549.out 3).trans rfl⟩ (fun hHeld => ?_)
      clear hK K
      refine norm_ (a' := ?_) ?_ ?_
      rotate_left
      ·show Act.put _ (some 28) _ = _
       simp only [sx, i64_w, i32_w]
       rfl
      refine one_ (i := 13) (N := some 29) #[true, true, true, true, true, true, true, true, true, true, true, true, true, true, false, false] rfl rfl (one_of HT_.out (by kernel_rfl)) (by decide) (fun K hK => ?_)
      refine goes_ Tryz.func144 (by kernel_rfl) rfl #[.slice Ao133 y567.length co133] (by rfl) rfl rfl (by (try simp only [List.map_toArray, List.map_cons, List.map_nil]); first | done | rfl | (simp only [List.length_drop, List.length_take]; rfl)) ?_
      with_reducible refine (environref02_trim.calls k (fun k_ => some k_ = (.slice Ao133 y567.length co133 : Value).ownBlock) _ _ y567 t570 _ ?side1 A15.out).mono ?_
      (case side1 => exact Kd.R_V (Kd.R_tight rfl (Kd.R_types (HO569.out) BK549.out (by decide))))
      rintro e w134 ⟨v571, rfl, ho0, hb⟩
      refine ⟨_, rfl, ?_⟩
      replace HO562 := Aside0.mk (Kd.V_below (by (with_reducible repeat (first | apply Kd.V_alloc | apply Kd.V_drewN | apply Kd.V_drew)); exact HO562.out) hb)
      have HO572 := Aside0.mk (Kd.V_lower (Kd.V_mono (ok' := fun k_ => (w.heap.size ≤ k_) ∧ some k_ ≠ (v558 : Value).ownBlock ∧ k_ ≠ gb549) ho0 (fun k_ hk_ => ⟨Or.elim hk_ (fun hs_ => ((Kd.R_types (HO569.out) BK549.out (by decide)).1 k_ hs_.symm).1.1) (fun hn_ => (Nat.le_trans (below_size (bw HB)) hn_)), Or.elim hk_ (fun hs_ => ((Kd.R_types (HO569.out) BK549.out (by decide)).1 k_ hs_.symm).1.2) (fun hn_ => (Kd.fresh' (Kd.R_lt (by (with_reducible repeat (first | apply Kd.R_alloc | apply Kd.R_drewN | apply Kd.R_drew)); exact HO559.out)) k_ hn_)), Or.elim hk_ (fun hs_ => ((Kd.R_types (HO569.out) BK549.out (by decide)).1 k_ hs_.symm).2) (fun hn_ => (Kd.freshB (g := gb549) (o := .cells #[.bool a0_0, .slice A0_1 l0_1.length c0_1, .int .i64 a0_2, .bool a0_3] 123 (0, 0)) (bk BK549) k_ hn_))⟩)) (below_size (bw HB)))
      replace HO559 := Aside0.mk (Kd.R_below (by (with_reducible repeat (first | apply Kd.R_alloc | apply Kd.R_drewN | apply Kd.R_drew)); exact HO559.out) hb)
      replace HO569 := Aside0.mk (Kd.R_below (by (with_reducible repeat (first | apply Kd.R_alloc | apply Kd.R_drewN | apply Kd.R_drew)); exact HO569.out) hb)
      replace BK549 := Aside0.mk (bb BK549 hb)
      replace HB := bt_ HB hb
      (try clear hb)
      (try clear hb2)
      (try clear hk)
      (try clear hi)
      (try clear ho0)
      refine hK.out _ _ ⟨(blk_cell BK549.out 0).trans rfl, (blk_cell BK549.out 1).trans rfl, (blk_cell BK549.out 2).trans rfl, (blk_cell BK549.out 3).trans rfl⟩ (fun hHeld => ?_)
      clear hK K
      refine norm_ (a' := ?_) ?_ ?_
      rotate_left
      ·show Act.put _ (some 29) _ = _
       simp only [sx, i64_w, i32_w]
       rfl
      refine pu 14 7 (bl 16 32767) HT_ ?_
      refine pu 15 8 (bl 16 65535) HT_ ?_
      refine done_ (done_of HT_.out (by kernel_rfl)) ?_
      go_upto_region 5 with (first | ((with_reducible refine gate_dst (N := 31) rfl ?_); refine Kd.R_lit (Kd.int .i64) _ 3 ?hg (N := 31) ?hd (xs := ([5] : List Int)) (inner := [.int .i64 5]) (ok := fun _ => True) (okp := fun _ => True) ?hr ?hp (fun _ hk => hk) trivial (Below.refl _ _) (Nat.le_refl _) (by simp) ?_; (case hd => rfl); (case hg => rfl); (case hr => first | (go_simp; done) | (go_simp; rfl)); (case hp => exact (Reps.one (show Kd.M (Kd.int .i64) _ _ _ 5 [.int .i64 5] from rfl) (Reps.none _ _))); intro v574 w37 ho38 hb hg_ hnew_; clear hg_ hnew_; (first | rw [← Ny573.out] at ho38 | (simp only [Int.reduceToNat] at ho38; rw [← Ny573.out] at ho38)); replace HO562 := Aside0.mk (Kd.V_elder' (by (with_reducible repeat (first | apply Kd.V_alloc | apply Kd.V_drewN | apply Kd.V_drew)); exact HO562.out) (Kd.R_base ho38) hb); replace HO572 := Aside0.mk (Kd.V_elder' (by (with_reducible repeat (first | apply Kd.V_alloc | apply Kd.V_drewN | apply Kd.V_drew)); exact HO572.out) (Kd.R_base ho38) hb); have HO575 := Aside0.mk (Kd.R_lower (Kd.R_new' (Kd.R_new' (Kd.R_newM (M := fun k_ => (w.heap.size ≤ k_)) ho38 (below_size (bw HB)) (fun k_ h_ => h_)) (Kd.R_lt (by (with_reducible repeat (first | apply Kd.R_alloc | apply Kd.R_drewN | apply Kd.R_drew)); exact HO559.out))) (Kd.R_lt (by (with_reducible repeat (first | apply Kd.R_alloc | apply Kd.R_drewN | apply Kd.R_drew)); exact HO569.out))) (below_size (bw HB))); replace HO559 := Aside0.mk (Kd.R_elder' (by (with_reducible repeat (first | apply Kd.R_alloc | apply Kd.R_drewN | apply Kd.R_drew)); exact HO559.out) (Kd.R_base ho38) hb); replace HO569 := Aside0.mk (Kd.R_elder' (by (with_reducible repeat (first | apply Kd.R_alloc | apply Kd.R_drewN | apply Kd.R_drew)); exact HO569.out) (Kd.R_base ho38) hb); replace BK549 := Aside0.mk (bb BK549 hb); replace HB := bt_ HB hb; clear hb ho38; obtain ⟨Ao39, co39, eo39⟩ := Kd.R_slice HO575.out; subst eo39) | (refine gc 146 ?_; refine gl (some 34) Tryz.func146 #[.slice Ao39 y573.length co39, .int .i64 (wrap64 (a1 - 1))] ?_; (with_reducible refine (environref02_shift.calls (fun k_ => some k_ = (.slice Ao39 y573.length co39 : Value).ownBlock) (.slice Ao39 y573.length co39) y573 (wrap64 (a1 - 1)) t576 w _ ?side1 ?side2 A16.out).mono ?_); (case side1 => repeat (first | (with_reducible first | exact HB.out | apply below_alloc | apply pw_below_drewN | apply below_drew1 | refine below_set ?_ GW549.out) | exact HB.out)); (case side2 => exact Kd.R_tight rfl HO575.out); rintro e w40 ⟨v577, rfl, ho0, hb, hkp⟩; refine ⟨_, rfl, ?_⟩; replace BK549 := Aside0.mk (blk_kept (bk BK549) hkp (fun hs_ => (fun e_ => (Kd.R_ne HO575.out BK549.out (by decide)) e_) hs_)); replace HO562 := Aside0.mk (Kd.V_mono (ok' := fun k_ => (w.heap.size ≤ k_) ∧ some k_ ≠ (.slice Ao133 y567.length co133 : Value).ownBlock ∧ k_ ≠ gb549 ∧ some k_ ≠ (v577 : Value).ownBlock) (Kd.V_keptB (HO562.out) hkp (fun k_ hk_ hs_ => (hk_.2) hs_)) (fun k_ hk_ => ⟨hk_.1.1.1.1, hk_.1.1.2, hk_.1.1.1.2, fun e_ => Or.elim (ho0.1 k_ e_.symm) (fun hs_ => hk_.2.1 hs_) (fun hn_ => Nat.not_le.2 hk_.2.2 hn_)⟩)); replace HO572 := Aside0.mk (Kd.V_mono (ok' := fun k_ => (w.heap.size ≤ k_) ∧ some k_ ≠ (v558 : Value).ownBlock ∧ k_ ≠ gb549 ∧ some k_ ≠ (v577 : Value).ownBlock) (Kd.V_keptB (HO572.out) hkp (fun k_ hk_ hs_ => (hk_.2) hs_)) (fun k_ hk_ => ⟨hk_.1.1.1, hk_.1.1.2.1, hk_.1.1.2.2, fun e_ => Or.elim (ho0.1 k_ e_.symm) (fun hs_ => hk_.2.1 hs_) (fun hn_ => Nat.not_le.2 hk_.2.2 hn_)⟩)); have HO578 := Aside0.mk (Kd.R_mono (ok' := fun k_ => (w.heap.size ≤ k_) ∧ some k_ ≠ (v558 : Value).ownBlock ∧ some k_ ≠ (.slice Ao133 y567.length co133 : Value).ownBlock) ho0 (fun k_ hk_ => ⟨Or.elim hk_ (fun hs_ => (HO575.out.1 k_ (hs_).symm).1.1.1) (fun hn_ => (Nat.le_trans (below_size (bw HB)) hn_)), Or.elim hk_ (fun hs_ => fun e_ => (((HO559.out).1 k_ e_.symm).2) hs_) (fun hn_ => (Kd.fresh' (Kd.R_lt (by (with_reducible repeat (first | apply Kd.R_alloc | apply Kd.R_drewN | apply Kd.R_drew)); exact HO559.out)) k_ hn_)), Or.elim hk_ (fun hs_ => fun e_ => (((HO569.out).1 k_ e_.symm).2) hs_) (fun hn_ => (Kd.fresh' (Kd.R_lt (by (with_reducible repeat (first | apply Kd.R_alloc | apply Kd.R_drewN | apply Kd.R_drew)); exact HO569.out)) k_ hn_))⟩)); replace HO559 := Aside0.mk (Kd.R_mono (ok' := fun k_ => (w.heap.size ≤ k_) ∧ some k_ ≠ (.slice Ao133 y567.length co133 : Value).ownBlock ∧ some k_ ≠ (v577 : Value).ownBlock) (Kd.R_keptB (HO559.out) hkp (fun k_ hk_ hs_ => (hk_.2) hs_)) (fun k_ hk_ => ⟨hk_.1.1.1, hk_.1.1.2, fun e_ => Or.elim (ho0.1 k_ e_.symm) (fun hs_ => hk_.2.1 hs_) (fun hn_ => Nat.not_le.2 hk_.2.2 hn_)⟩)); replace HO569 := Aside0.mk (Kd.R_mono (ok' := fun k_ => (w.heap.size ≤ k_) ∧ some k_ ≠ (v558 : Value).ownBlock ∧ some k_ ≠ (v577 : Value).ownBlock) (Kd.R_keptB (HO569.out) hkp (fun k_ hk_ hs_ => (hk_.2) hs_)) (fun k_ hk_ => ⟨hk_.1.1.1, hk_.1.1.2, fun e_ => Or.elim (ho0.1 k_ e_.symm) (fun hs_ => hk_.2.1 hs_) (fun hn_ => Nat.not_le.2 hk_.2.2 hn_)⟩)); replace HB := Aside0.mk (hb); clear HO575; (try clear hb); (try clear hkp); (try clear ho0); obtain ⟨Ao41, co41, eo41⟩ := Kd.V_slice HO572.out; subst eo41; obtain ⟨Ao42, co42, eo42⟩ := Kd.R_slice HO578.out; subst eo42) | (refine gc 145 ?_; refine gl (some 35) Tryz.func145 #[.slice Ao41 t570.length co41, .slice Ao42 t576.length co42] ?_; (with_reducible refine (environref02_compare.calls k _ _ t570 _ _ t576 t579 _ ?side1 ?side2 ?side3 ?side4 A17.out).mono ?_); (case side1 => repeat (first | exact (Kd.V_reads' HO572.out).2.2 | (with_reducible refine Kd.C_alloc ?_ _) | (with_reducible refine Kd.C_drewN ?_ _) | (with_reducible refine Kd.C_drew ?_))); (case side2 => exact (Kd.V_reads' HO572.out).2.1); (case side3 => repeat (first | exact (Kd.R_reads' HO578.out).2.2 | (with_reducible refine Kd.C_alloc ?_ _) | (with_reducible refine Kd.C_drewN ?_ _) | (with_reducible refine Kd.C_drew ?_))); (case side4 => exact (Kd.R_reads' HO578.out).2.1); rintro e w' ⟨rfl, ⟨nd, rfl⟩⟩; refine ⟨_, rfl, ?_⟩))
      have H := HH_.out
      obtain ⟨x0, x1, x2, x3, x4, x5, x6, x7⟩ := cf4 BK549
      rcases Classical.em ((t570.length : Int) > 0) with c20 | c20
      all_goals (simp only [c20, if_true, if_false] at H)
      all_goals (first | (have c20b0 : decide (0 < (t570.length : Int)) = true := decide_eq_true (by omega); have c20b1 : decide (0 < t570.length) = true := decide_eq_true (by omega)) | (have c20b0 : decide (0 < (t570.length : Int)) = false := decide_eq_false (by omega); have c20b1 : decide (0 < t570.length) = false := decide_eq_false (by omega)))
      all_goals (clear c20 HH_; rcases Classical.em (wrap64 (t579 + 1) = 1) with c18 | c18)
      all_goals (first | rw [if_pos c18] at H | rw [if_neg c18] at H)
      all_goals (first | (have b18 := beq_iff_eq.2 c18) | (have b18 := beq_eq_false_iff_ne.2 c18))
      all_goals (clear c18; cases a0_3)
      all_goals (simp only [Bool.false_eq_true, if_true, if_false, Option.some.injEq, Prod.mk.injEq] at H; obtain ⟨rfl, rfl, rfl⟩ := H)
      all_goals go_wp2_with fail
      all_goals go_quiet (fail)
      all_goals (try go_wp2)
      all_goals go_ret3
      all_goals exact ⟨_, by first | rfl | (simp; done) | (simp <;> rfl), by (with_reducible repeat (first | apply Kd.V_alloc | apply Kd.V_drewN | apply Kd.V_drew)); exact Kd.V_mono HO562.out (fun _ hk => hk.1), by (with_reducible repeat (first | apply pw_below_drewN | apply below_drew1)); exact bw HB⟩
     ·rw [if_neg c14] at H
      exact absurd H (by simp)
    ·rw [if_neg c10] at H
     exact absurd H (by simp)
   ·rw [if_neg c9] at H
    exact absurd H (by simp)
  ·rw [if_neg c8] at H
   exact absurd H (by simp)
end Go.Proofs.YtckbmniiecbalaaGreatDoor.PT
