-- written by a program of this session out of the kit's print (its words and its form)
import Derived.Test.YtckbmniiecbalaaGreatDoorPTgRa
import Derived.Test.YtckbmniiecbalaaGreatDoorPTgSb
import Derived.Test.YtckbmniiecbalaaGreatDoorPTgSc
import Derived.Test.YtckbmniiecbalaaGreatDoorPTgSd
import Derived.Test.YtckbmniiecbalaaGreatDoorPTsq
import Derived.Test.YtckbmniiecbalaaGreatDoorPTx0
namespace Go.Proofs.YtckbmniiecbalaaGreatDoor.PT
open Go.RowKit Go.Proofs.YtckbmniiecbalaaGreatDoorW.PrintWords Go.Proofs.YtckbmniiecbalaaGreatDoorW.PrintLast Go.Proofs.YtckbmniiecbalaaGreatDoorW.PrintMore
attribute [local go_sem] max2_int min2_int max_two min_two max_three min_three max_four min_four   -- for this text's walks alone
set_option linter.unusedVariables false
set_option linter.unusedSimpArgs false

/-! ### environref03_Float: function 15 -/
mutual
def environref03_Float.j0 : Nat → Int → Int → Int → Bool → Int → Int → Option (ByteArray)
 | 0, _, _, _, _, _, _ => none
 | k + 1, x1, x2, x3, x30, x415000, x415001 => if x30 = true then (some (⟨#[42]⟩ : ByteArray)) else ((environref03_repeat.f k 48 (wrap64 (x2 + 1))).bind fun t418 => (if x415000 = 0 then (environref03_Float.j1 k x1 x2 x3 t418 0 x415000 x415001) else ((environref02_Of.f k x415000).bind fun t419 => ((environref03_rounded.f k x415000 x415001 (wrap64 (x2 - (wrap64 ((wrap64 (x415001 + (t419.length : Int))) - 1))))).bind fun t422 => ((environref03_decimal.f k t422).bind fun t425 => (if (t425.size : Int) > (wrap64 (x2 + 1)) then (if 0 ≤ (wrap64 (x2 + 1)) then (if (wrap64 (x2 + 1)) ≤ (t425.size : Int) then (environref03_Float.j1 k x1 x2 x3 (t425.extract 0 ((wrap64 (x2 + 1)) : Int).toNat) (wrap64 ((wrap64 ((wrap64 (x415001 + (t419.length : Int))) - 1)) + 1)) x415000 x415001) else (none)) else (none)) else (environref03_Float.j1 k x1 x2 x3 t425 (wrap64 ((wrap64 (x415001 + (t419.length : Int))) - 1)) x415000 x415001)))))))
def environref03_Float.j1 : Nat → Int → Int → Int → ByteArray → Int → Int → Int → Option (ByteArray)
 | 0, _, _, _, _, _, _, _ => none
 | k + 1, x1, x2, x3, x9, x10, x415000, x415001 => if x2 > 0 then (if 0 ≤ 1 then (if 1 ≤ (x9.size : Int) then (if (x9.extract 0 1).size + 1 ≤ 9223372036854775807 then (if ((x9.extract 0 1) ++ (⟨#[46]⟩ : ByteArray)).size + (x9.extract 1 x9.size).size ≤ 9223372036854775807 then (environref03_Float.j2 k x1 x3 (((x9.extract 0 1) ++ (⟨#[46]⟩ : ByteArray)) ++ (x9.extract 1 x9.size)) x10 x415000 x415001) else (none)) else (none)) else (none)) else (none)) else (environref03_Float.j2 k x1 x3 x9 x10 x415000 x415001)
def environref03_Float.j2 : Nat → Int → Int → ByteArray → Int → Int → Int → Option (ByteArray)
 | 0, _, _, _, _, _, _ => none
 | k + 1, x1, x3, x9, x10, x415000, x415001 => (environref03_Whole.f k x10 x3).bind fun t426 => (if 0 < (t426.size : Int) then (if (bt t426 0) = 42 then (if x1 = 0 then (some (⟨#[42]⟩ : ByteArray)) else ((environref03_size.f x1).bind fun t427 => ((environref03_repeat.f k 42 t427).bind fun t428 => (some t428)))) else ((environref03_sign.f (decide (x415000 < 0)) x1).bind fun t429 => (if t429.size + x9.size ≤ 9223372036854775807 then (if (t429 ++ x9).size + 1 ≤ 9223372036854775807 then (if ((t429 ++ x9) ++ (⟨#[101]⟩ : ByteArray)).size + t426.size ≤ 9223372036854775807 then ((environref03_fill.f k (((t429 ++ x9) ++ (⟨#[101]⟩ : ByteArray)) ++ t426) x1).bind fun t430 => (some t430)) else (none)) else (none)) else (none)))) else (none))
end
def environref03_Float.f (k : Nat) (a0_0 : Int) (a0_1 : Int) (a1 : Int) (a2 : Int) (a3 : Int) : Option (ByteArray) := (environref03_wide.f a1).bind fun t415 => (if t415 = true then (environref03_Float.j0 k a1 a2 a3 true a0_0 a0_1) else ((environref03_wide.f a3).bind fun t416 => (if t416 = true then (environref03_Float.j0 k a1 a2 a3 true a0_0 a0_1) else (if a2 < 0 then (environref03_Float.j0 k a1 a2 a3 true a0_0 a0_1) else (if a2 > 500 then (environref03_Float.j0 k a1 a2 a3 true a0_0 a0_1) else ((environref02_Valid.f k 1 a0_0 a0_1).bind fun t417 => (environref03_Float.j0 k a1 a2 a3 (!t417) a0_0 a0_1)))))))
theorem environref03_Float.mono_l : ∀ k, (∀ y0 y1 y2 y3 y4 y5, LeO (environref03_Float.j0 k y0 y1 y2 y3 y4 y5) (environref03_Float.j0 (k + 1) y0 y1 y2 y3 y4 y5)) ∧ (∀ y0 y1 y2 y3 y4 y5 y6, LeO (environref03_Float.j1 k y0 y1 y2 y3 y4 y5 y6) (environref03_Float.j1 (k + 1) y0 y1 y2 y3 y4 y5 y6)) ∧ (∀ y0 y1 y2 y3 y4 y5, LeO (environref03_Float.j2 k y0 y1 y2 y3 y4 y5) (environref03_Float.j2 (k + 1) y0 y1 y2 y3 y4 y5))
 | 0 => ⟨fun _ _ _ _ _ _ r h => by simp [environref03_Float.j0] at h, fun _ _ _ _ _ _ _ r h => by simp [environref03_Float.j1] at h, fun _ _ _ _ _ _ r h => by simp [environref03_Float.j2] at h⟩
 | k + 1 => by
  obtain ⟨ih0, ih1, ih2⟩ := environref03_Float.mono_l k
  refine ⟨?_, ?_, ?_⟩
  ·intro y0 y1 y2 y3 y4 y5
   unfold environref03_Float.j0
   repeat' first
   | (with_reducible exact ih0 _ _ _ _ _ _)
   | (with_reducible exact ih1 _ _ _ _ _ _ _)
   | (with_reducible exact ih2 _ _ _ _ _ _)
   | (with_reducible exact environref02_Of.mono _ _)
   | (with_reducible exact environref02_Valid.mono _ _ _ _)
   | (with_reducible exact environref03_Whole.mono _ _ _)
   | (with_reducible exact environref03_decimal.mono _ _)
   | (with_reducible exact environref03_fill.mono _ _ _)
   | (with_reducible exact environref03_repeat.mono _ _ _)
   | (with_reducible exact environref03_rounded.mono _ _ _ _)
   | (with_reducible exact LeO.refl _)
   | (with_reducible exact LeO.none _)
   | (with_reducible refine LeO.ite ?_ ?_)
   | (with_reducible refine LeO.bind ?_ (fun _ => ?_))
   | exact ih0 _ _ _ _ _ _
   | exact ih1 _ _ _ _ _ _ _
   | exact ih2 _ _ _ _ _ _
   | exact environref02_Of.mono _ _
   | exact environref02_Valid.mono _ _ _ _
   | exact environref03_Whole.mono _ _ _
   | exact environref03_decimal.mono _ _
   | exact environref03_fill.mono _ _ _
   | exact environref03_repeat.mono _ _ _
   | exact environref03_rounded.mono _ _ _ _
   | exact LeO.none _
   | refine LeO.ite ?_ ?_
   | refine LeO.bind ?_ (fun _ => ?_)
  ·intro y0 y1 y2 y3 y4 y5 y6
   unfold environref03_Float.j1
   repeat' first
   | (with_reducible exact ih0 _ _ _ _ _ _)
   | (with_reducible exact ih1 _ _ _ _ _ _ _)
   | (with_reducible exact ih2 _ _ _ _ _ _)
   | (with_reducible exact environref02_Of.mono _ _)
   | (with_reducible exact environref02_Valid.mono _ _ _ _)
   | (with_reducible exact environref03_Whole.mono _ _ _)
   | (with_reducible exact environref03_decimal.mono _ _)
   | (with_reducible exact environref03_fill.mono _ _ _)
   | (with_reducible exact environref03_repeat.mono _ _ _)
   | (with_reducible exact environref03_rounded.mono _ _ _ _)
   | (with_reducible exact LeO.refl _)
   | (with_reducible exact LeO.none _)
   | (with_reducible refine LeO.ite ?_ ?_)
   | (with_reducible refine LeO.bind ?_ (fun _ => ?_))
   | exact ih0 _ _ _ _ _ _
   | exact ih1 _ _ _ _ _ _ _
   | exact ih2 _ _ _ _ _ _
   | exact environref02_Of.mono _ _
   | exact environref02_Valid.mono _ _ _ _
   | exact environref03_Whole.mono _ _ _
   | exact environref03_decimal.mono _ _
   | exact environref03_fill.mono _ _ _
   | exact environref03_repeat.mono _ _ _
   | exact environref03_rounded.mono _ _ _ _
   | exact LeO.none _
   | refine LeO.ite ?_ ?_
   | refine LeO.bind ?_ (fun _ => ?_)
  ·intro y0 y1 y2 y3 y4 y5
   unfold environref03_Float.j2
   repeat' first
   | (with_reducible exact ih0 _ _ _ _ _ _)
   | (with_reducible exact ih1 _ _ _ _ _ _ _)
   | (with_reducible exact ih2 _ _ _ _ _ _)
   | (with_reducible exact environref02_Of.mono _ _)
   | (with_reducible exact environref02_Valid.mono _ _ _ _)
   | (with_reducible exact environref03_Whole.mono _ _ _)
   | (with_reducible exact environref03_decimal.mono _ _)
   | (with_reducible exact environref03_fill.mono _ _ _)
   | (with_reducible exact environref03_repeat.mono _ _ _)
   | (with_reducible exact environref03_rounded.mono _ _ _ _)
   | (with_reducible exact LeO.refl _)
   | (with_reducible exact LeO.none _)
   | (with_reducible refine LeO.ite ?_ ?_)
   | (with_reducible refine LeO.bind ?_ (fun _ => ?_))
   | exact ih0 _ _ _ _ _ _
   | exact ih1 _ _ _ _ _ _ _
   | exact ih2 _ _ _ _ _ _
   | exact environref02_Of.mono _ _
   | exact environref02_Valid.mono _ _ _ _
   | exact environref03_Whole.mono _ _ _
   | exact environref03_decimal.mono _ _
   | exact environref03_fill.mono _ _ _
   | exact environref03_repeat.mono _ _ _
   | exact environref03_rounded.mono _ _ _ _
   | exact LeO.none _
   | refine LeO.ite ?_ ?_
   | refine LeO.bind ?_ (fun _ => ?_)
theorem environref03_Float.mono : ∀ a0 a1 a2 a3 a4 k, LeO (environref03_Float.f k a0 a1 a2 a3 a4) (environref03_Float.f (k + 1) a0 a1 a2 a3 a4) := by
 intro a0 a1 a2 a3 a4 k
 obtain ⟨ih0, ih1, ih2⟩ := environref03_Float.mono_l k
 unfold environref03_Float.f
 repeat' first
   | (with_reducible exact ih0 _ _ _ _ _ _)
   | (with_reducible exact ih1 _ _ _ _ _ _ _)
   | (with_reducible exact ih2 _ _ _ _ _ _)
   | (with_reducible exact environref02_Of.mono _ _)
   | (with_reducible exact environref02_Valid.mono _ _ _ _)
   | (with_reducible exact environref03_Whole.mono _ _ _)
   | (with_reducible exact environref03_decimal.mono _ _)
   | (with_reducible exact environref03_fill.mono _ _ _)
   | (with_reducible exact environref03_repeat.mono _ _ _)
   | (with_reducible exact environref03_rounded.mono _ _ _ _)
   | (with_reducible exact LeO.refl _)
   | (with_reducible exact LeO.none _)
   | (with_reducible refine LeO.ite ?_ ?_)
   | (with_reducible refine LeO.bind ?_ (fun _ => ?_))
   | exact ih0 _ _ _ _ _ _
   | exact ih1 _ _ _ _ _ _ _
   | exact ih2 _ _ _ _ _ _
   | exact environref02_Of.mono _ _
   | exact environref02_Valid.mono _ _ _ _
   | exact environref03_Whole.mono _ _ _
   | exact environref03_decimal.mono _ _
   | exact environref03_fill.mono _ _ _
   | exact environref03_repeat.mono _ _ _
   | exact environref03_rounded.mono _ _ _ _
   | exact LeO.none _
   | refine LeO.ite ?_ ?_
   | refine LeO.bind ?_ (fun _ => ?_)
def environref03_Float.T5 : Bool × List (List Nat × List Nat) := (true, [([], []), ([0], [0]), ([], []), ([2], [2]), ([3], [3]), ([4], [4]), ([1, 5], [1, 5]), ([6], [6]), ([7, 4, 0, 1, 2, 3, 4, 5, 6, 7], [7])])
def environref03_Float.B5 : List Nat := [0, 1, 0, 4, 12, 28, 63, 127, 255]
theorem environref03_Float.tab5 : rtab .any (opsOf Tryz.f15 5) = environref03_Float.T5 := by kernel_rfl
theorem environref03_Float.bits5 : waitsOk environref03_Float.T5.2 environref03_Float.B5 = true := by kernel_rfl
set_option maxHeartbeats 8000000 in
set_option maxRecDepth 100000 in
theorem environref03_Float.calls (k : Nat) (a0_0 : Int) (a0_1 : Int) (a1 : Int) (a2 : Int) (a3 : Int) (r : ByteArray) (w : World) (h : environref03_Float.f k a0_0 a0_1 a1 a2 a3 = some r) :
  Calls Tryz.prog 15 #[.agg #[.int .i64 a0_0, .int .i64 a0_1], .int .i64 a1, .int .i64 a2, .int .i64 a3] w fun e w' => e = .returned (.string r) ∧ Below w.heap.size w w' := by
 have hu23 := Tryz.underlying23
 have HB := Aside0.mk (Below.refl w.heap.size w)
 have H : ((environref03_wide.f a1).bind fun t415 => (if t415 = true then (environref03_Float.j0 k a1 a2 a3 true a0_0 a0_1) else ((environref03_wide.f a3).bind fun t416 => (if t416 = true then (environref03_Float.j0 k a1 a2 a3 true a0_0 a0_1) else (if a2 < 0 then (environref03_Float.j0 k a1 a2 a3 true a0_0 a0_1) else (if a2 > 500 then (environref03_Float.j0 k a1 a2 a3 true a0_0 a0_1) else ((environref02_Valid.f k 1 a0_0 a0_1).bind fun t417 => (environref03_Float.j0 k a1 a2 a3 (!t417) a0_0 a0_1)))))))) = some r := h
 clear h
 have HC5 := Aside0.mk H
 clear H
 go_enter Tryz.func15, Tryz.ntmps15
 go_upto_region 1 with (first | ((with_reducible refine gate_dst (N := 4) rfl ?_); refine box_event ?hg (N := 4) ?hd (cs := #[.int .i64 a0_0, .int .i64 a0_1]) (t := 23) ?hr ?_; (case hd => rfl); (case hg => rfl); (case hr => first | (go_simp; done) | (go_simp; rfl)); intro gb414 hg w6 hbox hb; have BK414 := Aside0.mk (hbox); have GW414 := Aside0.mk (bs HB hg : w.heap.size ≤ gb414); replace HB := Aside0.mk (below_step (bw HB) hb); clear hb hbox hg))
 (try simp only [sx])
 go_cut [30] (fun v30 wc => ∃ (kq : Nat) (x30_4 : Bool), v30 = .bool x30_4 ∧ Aside0 (environref03_Float.j0 kq a1 a2 a3 x30_4 a0_0 a0_1 = some r) ∧ Aside0 (kq ≤ k) ∧ Aside0 (wc.heap[gb414]? = some (.cells #[.int .i64 a0_0, .int .i64 a0_1] 23 (0, 0))) ∧ Aside0 (Below w.heap.size w wc))
 case first =>
  have H := HC5.out
  clear HC5
  replace H := Option.bind_eq_some_iff.mp H
  obtain ⟨t415, A70, H⟩ := H
  replace H : (if t415 = true then (environref03_Float.j0 k a1 a2 a3 true a0_0 a0_1) else ((environref03_wide.f a3).bind fun t416 => (if t416 = true then (environref03_Float.j0 k a1 a2 a3 true a0_0 a0_1) else (if a2 < 0 then (environref03_Float.j0 k a1 a2 a3 true a0_0 a0_1) else (if a2 > 500 then (environref03_Float.j0 k a1 a2 a3 true a0_0 a0_1) else ((environref02_Valid.f k 1 a0_0 a0_1).bind fun t417 => (environref03_Float.j0 k a1 a2 a3 (!t417) a0_0 a0_1))))))) = some r := H
  have A7 := Aside0.mk A70
  clear A70
  by_cases c8 : t415 = true
  ·subst c8
   have H1 : (environref03_Float.j0 k a1 a2 a3 true a0_0 a0_1) = some r := by rw [if_pos rfl] at H; exact H
   clear H
   have H := H1
   clear H1
   have H' := Aside0.mk H
   clear H
   go_wp2_with (first | ((with_reducible refine gate_callee (f := 46) rfl ?_); refine goesL_ (some 13) rfl rfl Tryz.func46 (by kernel_rfl) rfl #[.int .i64 a1] rfl (by (try simp only [List.map_toArray, List.map_cons, List.map_nil]); first | done | rfl | (simp only [List.length_drop, List.length_take]; rfl)) ?_; (with_reducible refine (environref03_wide.calls a1 true _ A7.out).mono ?_); rintro e w' ⟨rfl, ⟨nd, rfl⟩⟩; refine ⟨_, rfl, ?_⟩))
   go_meet
   case rel => exact ⟨_, (true), (by first | rfl | (simp; done) | (simp [*]; done)), H', ⟨by first | omega | exact Nat.le_refl _⟩, ⟨by (with_reducible repeat (first | refine blk_drewN ?_ _ | refine blk_drew ?_ | refine blk_alloc ?_ _)); exact BK414.out⟩, ⟨bw HB⟩⟩
  ·replace c8 := Bool.eq_false_iff.mpr c8
   subst c8
   have H1 : ((environref03_wide.f a3).bind fun t416 => (if t416 = true then (environref03_Float.j0 k a1 a2 a3 true a0_0 a0_1) else (if a2 < 0 then (environref03_Float.j0 k a1 a2 a3 true a0_0 a0_1) else (if a2 > 500 then (environref03_Float.j0 k a1 a2 a3 true a0_0 a0_1) else ((environref02_Valid.f k 1 a0_0 a0_1).bind fun t417 => (environref03_Float.j0 k a1 a2 a3 (!t417) a0_0 a0_1)))))) = some r := by rw [if_neg (show ¬ (false = true) by decide)] at H; exact H
   clear H
   have H := H1
   clear H1
   replace H := Option.bind_eq_some_iff.mp H
   obtain ⟨t416, A90, H⟩ := H
   replace H : (if t416 = true then (environref03_Float.j0 k a1 a2 a3 true a0_0 a0_1) else (if a2 < 0 then (environref03_Float.j0 k a1 a2 a3 true a0_0 a0_1) else (if a2 > 500 then (environref03_Float.j0 k a1 a2 a3 true a0_0 a0_1) else ((environref02_Valid.f k 1 a0_0 a0_1).bind fun t417 => (environref03_Float.j0 k a1 a2 a3 (!t417) a0_0 a0_1))))) = some r := H
   have A9 := Aside0.mk A90
   clear A90
   by_cases c10 : t416 = true
   ·subst c10
    have H1 : (environref03_Float.j0 k a1 a2 a3 true a0_0 a0_1) = some r := by rw [if_pos rfl] at H; exact H
    clear H
    have H := H1
    clear H1
    have H' := Aside0.mk H
    clear H
    go_wp2_with (first | ((with_reducible refine gate_callee (f := 46) rfl ?_); refine goesL_ (some 13) rfl rfl Tryz.func46 (by kernel_rfl) rfl #[.int .i64 a1] rfl (by (try simp only [List.map_toArray, List.map_cons, List.map_nil]); first | done | rfl | (simp only [List.length_drop, List.length_take]; rfl)) ?_; (with_reducible refine (environref03_wide.calls a1 false _ A7.out).mono ?_); rintro e w' ⟨rfl, ⟨nd, rfl⟩⟩; refine ⟨_, rfl, ?_⟩) | (go_at_call 46; (with_reducible refine (environref03_wide.calls a3 true _ A9.out).mono ?_); rintro e w' ⟨rfl, ⟨nd, rfl⟩⟩))
    go_meet
    case rel => exact ⟨_, (true), (by first | rfl | (simp; done) | (simp [*]; done)), H', ⟨by first | omega | exact Nat.le_refl _⟩, ⟨by (with_reducible repeat (first | refine blk_drewN ?_ _ | refine blk_drew ?_ | refine blk_alloc ?_ _)); exact BK414.out⟩, ⟨bw HB⟩⟩
   ·replace c10 := Bool.eq_false_iff.mpr c10
    subst c10
    have H1 : (if a2 < 0 then (environref03_Float.j0 k a1 a2 a3 true a0_0 a0_1) else (if a2 > 500 then (environref03_Float.j0 k a1 a2 a3 true a0_0 a0_1) else ((environref02_Valid.f k 1 a0_0 a0_1).bind fun t417 => (environref03_Float.j0 k a1 a2 a3 (!t417) a0_0 a0_1)))) = some r := by rw [if_neg (show ¬ (false = true) by decide)] at H; exact H
    clear H
    have H := H1
    clear H1
    by_cases c11 : a2 < 0
    ·rw [if_pos c11] at H
     have c11b0 : decide (a2 < 0) = true := decide_eq_true c11
     clear c11
     (first | rw [c11b0] | (simp only [i64_w, i32_w]; rw [c11b0]) | skip)
     have H' := Aside0.mk H
     clear H
     go_wp2_with (first | ((with_reducible refine gate_callee (f := 46) rfl ?_); refine goesL_ (some 13) rfl rfl Tryz.func46 (by kernel_rfl) rfl #[.int .i64 a1] rfl (by (try simp only [List.map_toArray, List.map_cons, List.map_nil]); first | done | rfl | (simp only [List.length_drop, List.length_take]; rfl)) ?_; (with_reducible refine (environref03_wide.calls a1 false _ A7.out).mono ?_); rintro e w' ⟨rfl, ⟨nd, rfl⟩⟩; refine ⟨_, rfl, ?_⟩) | (go_at_call 46; (with_reducible refine (environref03_wide.calls a3 false _ A9.out).mono ?_); rintro e w' ⟨rfl, ⟨nd, rfl⟩⟩))
     go_meet
     case rel => exact ⟨_, (true), (by first | rfl | (simp; done) | (simp [*]; done)), H', ⟨by first | omega | exact Nat.le_refl _⟩, ⟨by (with_reducible repeat (first | refine blk_drewN ?_ _ | refine blk_drew ?_ | refine blk_alloc ?_ _)); exact BK414.out⟩, ⟨bw HB⟩⟩
    ·rw [if_neg c11] at H
     have c11b0 : decide (a2 < 0) = false := decide_eq_false c11
     clear c11
     (first | rw [c11b0] | (simp only [i64_w, i32_w]; rw [c11b0]) | skip)
     by_cases c12 : a2 > 500
     ·rw [if_pos c12] at H
      have c12b0 : decide (500 < a2) = true := decide_eq_true c12
      clear c12
      have H' := Aside0.mk H
      clear H
      go_wp2_with (first | ((with_reducible refine gate_callee (f := 46) rfl ?_); refine goesL_ (some 13) rfl rfl Tryz.func46 (by kernel_rfl) rfl #[.int .i64 a1] rfl (by (try simp only [List.map_toArray, List.map_cons, List.map_nil]); first | done | rfl | (simp only [List.length_drop, List.length_take]; rfl)) ?_; (with_reducible refine (environref03_wide.calls a1 false _ A7.out).mono ?_); rintro e w' ⟨rfl, ⟨nd, rfl⟩⟩; refine ⟨_, rfl, ?_⟩) | (go_at_call 46; (with_reducible refine (environref03_wide.calls a3 false _ A9.out).mono ?_); rintro e w' ⟨rfl, ⟨nd, rfl⟩⟩))
      go_meet
      case rel => exact ⟨_, (true), (by first | rfl | (simp; done) | (simp [*]; done)), H', ⟨by first | omega | exact Nat.le_refl _⟩, ⟨by (with_reducible repeat (first | refine blk_drewN ?_ _ | refine blk_drew ?_ | refine blk_alloc ?_ _)); exact BK414.out⟩, ⟨bw HB⟩⟩
     ·rw [if_neg c12] at H
      have c12b0 : decide (500 < a2) = false := decide_eq_false c12
      clear c12
      replace H := Option.bind_eq_some_iff.mp H
      obtain ⟨t417, A130, H⟩ := H
      replace H : (environref03_Float.j0 k a1 a2 a3 (!t417) a0_0 a0_1) = some r := H
      have A13 := Aside0.mk A130
      clear A130
      have H' := Aside0.mk H
      clear H
      go_wp2_with (first | ((with_reducible refine gate_callee (f := 46) rfl ?_); refine goesL_ (some 13) rfl rfl Tryz.func46 (by kernel_rfl) rfl #[.int .i64 a1] rfl (by (try simp only [List.map_toArray, List.map_cons, List.map_nil]); first | done | rfl | (simp only [List.length_drop, List.length_take]; rfl)) ?_; (with_reducible refine (environref03_wide.calls a1 false _ A7.out).mono ?_); rintro e w' ⟨rfl, ⟨nd, rfl⟩⟩; refine ⟨_, rfl, ?_⟩) | (go_at_call 46; (with_reducible refine (environref03_wide.calls a3 false _ A9.out).mono ?_); rintro e w' ⟨rfl, ⟨nd, rfl⟩⟩; obtain ⟨hcz14_0, hcz14_1, hfz14_0, hfz14_1⟩ := cf2 BK414) | (go_at_call 24; (with_reducible refine (environref02_Valid.calls k 1 a0_0 a0_1 t417 _ A13.out).mono ?_); rintro e w15 ⟨rfl, hb⟩; replace BK414 := Aside0.mk (bb BK414 hb); replace HB := Aside0.mk (below_step (bw HB) hb); (try clear hb); (try clear hb2); (try clear hk); (try clear hi)))
      go_meet
      case rel => exact ⟨_, (!t417), (by first | rfl | (simp; done) | (simp [*]; done)), H', ⟨by first | omega | exact Nat.le_refl _⟩, ⟨by (with_reducible repeat (first | refine blk_drewN ?_ _ | refine blk_drew ?_ | refine blk_alloc ?_ _)); exact BK414.out⟩, ⟨bw HB⟩⟩
 case rest =>
  clear HC5
  try clear c1
  try clear p2
  try clear c4
  try clear c8
  try clear c10
  try clear c11
  try clear c11b0
  try clear c12
  try clear c12b0
  try clear c15
  try clear hcz14_0
  try clear hcz14_1
  try clear hfz14_0
  try clear hfz14_1
  obtain ⟨kq, x30_4, rfl, HA, HJ4, BK414, HB⟩ := hcut
  cases kq with
  | zero => exact absurd HA.out (by simp [environref03_Float.j0])
  | succ kj4 =>
   have H := HA.out
   clear HA
   simp only [environref03_Float.j0] at H
   by_cases c16 : x30_4 = true
   ·subst c16
    have H1 : (some (⟨#[42]⟩ : ByteArray)) = some r := by rw [if_pos rfl] at H; exact H
    clear H
    have H := H1
    clear H1
    obtain rfl := Option.some.inj H
    go_wp2
    go_ret
    exact ⟨by first | rfl | (simp [errW_none, errW_some] <;> rfl) | (simp [*, errW_none, errW_some] <;> rfl), bw HB⟩
   ·replace c16 := Bool.eq_false_iff.mpr c16
    subst c16
    have H1 : ((environref03_repeat.f kj4 48 (wrap64 (a2 + 1))).bind fun t418 => (if a0_0 = 0 then (environref03_Float.j1 kj4 a1 a2 a3 t418 0 a0_0 a0_1) else ((environref02_Of.f kj4 a0_0).bind fun t419 => ((environref03_rounded.f kj4 a0_0 a0_1 (wrap64 (a2 - (wrap64 ((wrap64 (a0_1 + (t419.length : Int))) - 1))))).bind fun t422 => ((environref03_decimal.f kj4 t422).bind fun t425 => (if (t425.size : Int) > (wrap64 (a2 + 1)) then (if 0 ≤ (wrap64 (a2 + 1)) then (if (wrap64 (a2 + 1)) ≤ (t425.size : Int) then (environref03_Float.j1 kj4 a1 a2 a3 (t425.extract 0 ((wrap64 (a2 + 1)) : Int).toNat) (wrap64 ((wrap64 ((wrap64 (a0_1 + (t419.length : Int))) - 1)) + 1)) a0_0 a0_1) else (none)) else (none)) else (environref03_Float.j1 kj4 a1 a2 a3 t425 (wrap64 ((wrap64 (a0_1 + (t419.length : Int))) - 1)) a0_0 a0_1))))))) = some r := by rw [if_neg (show ¬ (false = true) by decide)] at H; exact H
    clear H
    have H := H1
    clear H1
    replace H := Option.bind_eq_some_iff.mp H
    obtain ⟨t418, A170, H⟩ := H
    replace H : (if a0_0 = 0 then (environref03_Float.j1 kj4 a1 a2 a3 t418 0 a0_0 a0_1) else ((environref02_Of.f kj4 a0_0).bind fun t419 => ((environref03_rounded.f kj4 a0_0 a0_1 (wrap64 (a2 - (wrap64 ((wrap64 (a0_1 + (t419.length : Int))) - 1))))).bind fun t422 => ((environref03_decimal.f kj4 t422).bind fun t425 => (if (t425.size : Int) > (wrap64 (a2 + 1)) then (if 0 ≤ (wrap64 (a2 + 1)) then (if (wrap64 (a2 + 1)) ≤ (t425.size : Int) then (environref03_Float.j1 kj4 a1 a2 a3 (t425.extract 0 ((wrap64 (a2 + 1)) : Int).toNat) (wrap64 ((wrap64 ((wrap64 (a0_1 + (t419.length : Int))) - 1)) + 1)) a0_0 a0_1) else (none)) else (none)) else (environref03_Float.j1 kj4 a1 a2 a3 t425 (wrap64 ((wrap64 (a0_1 + (t419.length : Int))) - 1)) a0_0 a0_1)))))) = some r := H
    have A17 := Aside0.mk A170
    clear A170
    have HC18 := Aside0.mk H
    clear H
    go_upto_if 36 with (first | ((with_reducible refine gate_callee (f := 53) rfl ?_); refine goesL_ (some 33) rfl rfl Tryz.func53 (by kernel_rfl) rfl #[.int .u8 48, .int .i64 (wrap64 (a2 + 1))] rfl (by (try simp only [List.map_toArray, List.map_cons, List.map_nil]); first | done | rfl | (simp only [List.length_drop, List.length_take]; rfl)) ?_; (with_reducible refine (environref03_repeat.calls kj4 48 (wrap64 (a2 + 1)) t418 _ A17.out).mono ?_); rintro e w19 ⟨rfl, hb⟩; refine ⟨_, rfl, ?_⟩; replace BK414 := Aside0.mk (bb BK414 hb); replace HB := Aside0.mk (below_step (bw HB) hb); (try clear hb); (try clear hb2); (try clear hk); (try clear hi); obtain ⟨hcz20_0, hcz20_1, hfz20_0, hfz20_1⟩ := cf2 BK414))
    (try simp only [sx])
    go_cut [9, 10] (fun v9 v10 wc => ∃ (kq : Nat) (x9_17 : ByteArray) (x10_17 : Int), v9 = .string x9_17 ∧ v10 = .int .i64 x10_17 ∧ Aside0 (environref03_Float.j1 kq a1 a2 a3 x9_17 x10_17 a0_0 a0_1 = some r) ∧ Aside0 (kq ≤ kj4) ∧ Aside0 (wc.heap[gb414]? = some (.cells #[.int .i64 a0_0, .int .i64 a0_1] 23 (0, 0))) ∧ Aside0 (Below w.heap.size w wc))
    case first =>
     have H := HC18.out
     clear HC18
     by_cases c21 : a0_0 = 0
     ·rw [if_pos c21] at H
      have c21b0 : (a0_0 == 0) = true := beq_iff_eq.mpr c21
      have c21b1 : (a0_0 != 0) = false := bne_eq_false_iff_eq.mpr c21
      clear c21
      (first | rw [c21b0] | (simp only [i64_w, i32_w]; rw [c21b0]) | skip)
      have H' := Aside0.mk H
      clear H
      go_wp2
      go_meet
      case rel => exact ⟨_, (t418), (0), (by first | rfl | (simp; done) | (simp [*]; done)), (by first | rfl | (simp; done) | (simp [*]; done)), H', ⟨by have := HJ4.out; first | omega | exact Nat.le_refl _⟩, ⟨by (with_reducible repeat (first | refine blk_drewN ?_ _ | refine blk_drew ?_ | refine blk_alloc ?_ _)); exact BK414.out⟩, ⟨bw HB⟩⟩
     ·rw [if_neg c21] at H
      have c21b0 : (a0_0 == 0) = false := beq_eq_false_iff_ne.mpr c21
      have c21b1 : (a0_0 != 0) = true := bne_iff_ne.mpr c21
      (first | rw [c21b0] | (simp only [i64_w, i32_w]; rw [c21b0]) | skip)
      replace H := Option.bind_eq_some_iff.mp H
      obtain ⟨t419, A220, H⟩ := H
      replace H : ((environref03_rounded.f kj4 a0_0 a0_1 (wrap64 (a2 - (wrap64 ((wrap64 (a0_1 + (t419.length : Int))) - 1))))).bind fun t422 => ((environref03_decimal.f kj4 t422).bind fun t425 => (if (t425.size : Int) > (wrap64 (a2 + 1)) then (if 0 ≤ (wrap64 (a2 + 1)) then (if (wrap64 (a2 + 1)) ≤ (t425.size : Int) then (environref03_Float.j1 kj4 a1 a2 a3 (t425.extract 0 ((wrap64 (a2 + 1)) : Int).toNat) (wrap64 ((wrap64 ((wrap64 (a0_1 + (t419.length : Int))) - 1)) + 1)) a0_0 a0_1) else (none)) else (none)) else (environref03_Float.j1 kj4 a1 a2 a3 t425 (wrap64 ((wrap64 (a0_1 + (t419.length : Int))) - 1)) a0_0 a0_1)))) = some r := H
      have A22 := Aside0.mk A220
      clear A220
      replace H := Option.bind_eq_some_iff.mp H
      obtain ⟨t422, A230, H⟩ := H
      replace H : ((environref03_decimal.f kj4 t422).bind fun t425 => (if (t425.size : Int) > (wrap64 (a2 + 1)) then (if 0 ≤ (wrap64 (a2 + 1)) then (if (wrap64 (a2 + 1)) ≤ (t425.size : Int) then (environref03_Float.j1 kj4 a1 a2 a3 (t425.extract 0 ((wrap64 (a2 + 1)) : Int).toNat) (wrap64 ((wrap64 ((wrap64 (a0_1 + (t419.length : Int))) - 1)) + 1)) a0_0 a0_1) else (none)) else (none)) else (environref03_Float.j1 kj4 a1 a2 a3 t425 (wrap64 ((wrap64 (a0_1 + (t419.length : Int))) - 1)) a0_0 a0_1))) = some r := H
      have A23 := Aside0.mk A230
      clear A230
      replace H := Option.bind_eq_some_iff.mp H
      obtain ⟨t425, A240, H⟩ := H
      replace H : (if (t425.size : Int) > (wrap64 (a2 + 1)) then (if 0 ≤ (wrap64 (a2 + 1)) then (if (wrap64 (a2 + 1)) ≤ (t425.size : Int) then (environref03_Float.j1 kj4 a1 a2 a3 (t425.extract 0 ((wrap64 (a2 + 1)) : Int).toNat) (wrap64 ((wrap64 ((wrap64 (a0_1 + (t419.length : Int))) - 1)) + 1)) a0_0 a0_1) else (none)) else (none)) else (environref03_Float.j1 kj4 a1 a2 a3 t425 (wrap64 ((wrap64 (a0_1 + (t419.length : Int))) - 1)) a0_0 a0_1)) = some r := H
      have A24 := Aside0.mk A240
      clear A240
      by_cases c25 : (t425.size : Int) > (wrap64 (a2 + 1))
      ·rw [if_pos c25] at H
       have c25b0 : decide ((wrap64 (a2 + 1)) < (t425.size : Int)) = true := decide_eq_true c25
       clear c25
       obtain ⟨ji26, hji26⟩ : ∃ j_ : Int, (wrap64 (a2 + 1)) = j_ := ⟨_, rfl⟩
       replace H : (if 0 ≤ (ji26) then (if (ji26) ≤ (t425.size : Int) then (environref03_Float.j1 kj4 a1 a2 a3 (t425.extract 0 ((ji26) : Int).toNat) (wrap64 ((wrap64 ((wrap64 (a0_1 + (t419.length : Int))) - 1)) + 1)) a0_0 a0_1) else (none)) else (none)) = some r := by first | (rw [hji26] at H; exact H) | (simp only [hji26] at H ⊢; exact H)
       (try rw [hji26] at c25b0)
       (try rw [hji26] at A22)
       (try rw [hji26] at A23)
       (try rw [hji26] at A24)
       have hji26w : (IntKind.i64.wrap (a2 + 1)) = ji26 := (i64_w _).trans hji26
       by_cases c27 : 0 ≤ (ji26)
       ·rw [if_pos c27] at H
        have c27b0 := eq_true c27
        have c27b1 : decide (0 ≤ (ji26)) = true := decide_eq_true c27
        clear c27
        by_cases c28 : (ji26) ≤ (t425.size : Int)
        ·rw [if_pos c28] at H
         have c28b0 := eq_true c28
         have c28b1 : decide ((ji26) ≤ (t425.size : Int)) = true := decide_eq_true c28
         clear c28
         have H' := Aside0.mk H
         clear H
         try go_wp2
         replace BK414 := Aside0.mk (blk_drew BK414.out)
         replace HB := Aside0.mk (below_drew1 HB.out)
         refine start_ (n := 9) (S := fun w' => w'.cell? ⟨gb414, 0, none⟩ = some (.int .i64 a0_0) ∧ w'.cell? ⟨gb414, 1, none⟩ = some (.int .i64 a0_1)) (ds := []) #[false, false, false, false, false, false, false, false, false] (by kernel_rfl) rfl rfl ⟨(blk_cell BK414.out 0).trans rfl, (blk_cell BK414.out 1).trans rfl⟩ (fun hHeld => ?_); refine with_tabW environref03_Float.tab5 environref03_Float.bits5 (fun HT_ HW_ => ?_)
         generalize w19.drew = w29 at BK414 HB hHeld ⊢
         refine pu 0 37 (bl 9 1) HT_ ?_
         refine pu 2 39 (bl 9 5) HT_ ?_
         refine ta 1 38 (bl 9 7) HT_ HW_ hHeld ?_
         refine ta 3 40 (bl 9 15) HT_ HW_ hHeld ?_
         refine one_ (i := 4) (N := some 41) #[true, true, true, true, true, false, false, false, false] rfl rfl (one_of HT_.out (by kernel_rfl)) (by decide) (fun K hK => ?_)
         refine goes_ Tryz.func50 (by kernel_rfl) rfl #[.int .i64 a0_0] (by rfl) rfl rfl (by (try simp only [List.map_toArray, List.map_cons, List.map_nil]); first | done | rfl | (simp only [List.length_drop, List.length_take]; rfl)) ?_
         with_reducible refine (environref02_Of.calls kj4 a0_0 t419 _ A22.out).mono ?_
         rintro e w30 ⟨v420, rfl, ho0, hb⟩
         refine ⟨_, rfl, ?_⟩
         have HO421 := Aside0.mk (Kd.R_lower ho0 (below_size (bw HB)))
         replace BK414 := Aside0.mk (bb BK414 hb)
         replace HB := Aside0.mk (below_step (bw HB) hb)
         (try clear hb)
         (try clear hb2)
         (try clear hk)
         (try clear hi)
         (try clear ho0)
         obtain ⟨Ao31, co31, eo31⟩ := Kd.R_slice HO421.out
         (first | subst eo31 | (injection eo31 with f1_ f2_ f3_; have f4_ := f1_.symm; have f5_ := f3_.symm; clear f1_ f2_ f3_; subst f4_; subst f5_))
         refine hK.out _ _ ⟨(blk_cell BK414.out 0).trans rfl, (blk_cell BK414.out 1).trans rfl⟩ (fun hHeld => ?_)
         clear hK K
         refine norm_ (a' := ?_) ?_ ?_
         rotate_left
         ·show Act.put _ (some 41) _ = _
          simp only [sx, i64_w, i32_w]
          rfl
         refine pu 5 42 (bl 9 63) HT_ ?_
         refine pu 6 43 (bl 9 127) HT_ ?_
         refine pu 7 44 (bl 9 255) HT_ ?_
         refine pu 8 10 (bl 9 511) HT_ ?_
         refine done_ (done_of HT_.out (by kernel_rfl)) ?_
         obtain ⟨hcz32_0, hcz32_1, hfz32_0, hfz32_1⟩ := cf2 BK414
         try go_wp2_with (first | ((with_reducible refine gate_callee (f := 54) rfl ?_); refine goesL_ (some 49) rfl rfl Tryz.func54 (by kernel_rfl) rfl #[.agg #[.int .i64 a0_0, .int .i64 a0_1], .int .i64 (wrap64 (a2 - (wrap64 ((wrap64 (a0_1 + (t419.length : Int))) - 1))))] rfl (by (try simp only [List.map_toArray, List.map_cons, List.map_nil]); first | done | rfl | (simp only [List.length_drop, List.length_take]; rfl)) ?_; (with_reducible refine (environref03_rounded.calls kj4 a0_0 a0_1 (wrap64 (a2 - (wrap64 ((wrap64 (a0_1 + (t419.length : Int))) - 1)))) t422 _ A23.out).mono ?_); rintro e w33 ⟨v423, rfl, ho0, hb⟩; refine ⟨_, rfl, ?_⟩; have HO424 := Aside0.mk (Kd.Q_lower (Kd.Q_new' ho0 (Kd.R_lt (by (with_reducible repeat (first | apply Kd.R_alloc | apply Kd.R_drewN | apply Kd.R_drew)); exact HO421.out))) (below_size (bw HB))); replace HO421 := Aside0.mk (Kd.R_elder' (by (with_reducible repeat (first | apply Kd.R_alloc | apply Kd.R_drewN | apply Kd.R_drew)); exact HO421.out) (Kd.Q_base ho0) hb); replace BK414 := Aside0.mk (bb BK414 hb); replace HB := Aside0.mk (below_step (bw HB) hb); (try clear hb); (try clear hb2); (try clear hk); (try clear hi); (try clear ho0); obtain ⟨Ao34, co34, eo34, _⟩ := Kd.Q_slice HO424.out; subst eo34) | ((with_reducible refine gate_callee (f := 49) rfl ?_); refine goesL_ (some 50) rfl rfl Tryz.func49 (by kernel_rfl) rfl #[.slice Ao34 t422.length co34] rfl (by (try simp only [List.map_toArray, List.map_cons, List.map_nil]); first | done | rfl | (simp only [List.length_drop, List.length_take]; rfl)) ?_; (with_reducible refine (environref03_decimal.calls kj4 _ _ t422 t425 _ ?side1 ?side2 A24.out).mono ?_); (case side1 => repeat (first | exact (Kd.Q_reads' HO424.out).2.2 | (with_reducible refine Kd.C_alloc ?_ _) | (with_reducible refine Kd.C_drewN ?_ _) | (with_reducible refine Kd.C_drew ?_))); (case side2 => exact (Kd.Q_reads' HO424.out).2.1); rintro e w35 ⟨rfl, hb⟩; refine ⟨_, rfl, ?_⟩; replace HO421 := Aside0.mk (Kd.R_below (by (with_reducible repeat (first | apply Kd.R_alloc | apply Kd.R_drewN | apply Kd.R_drew)); exact HO421.out) hb); replace HO424 := Aside0.mk (Kd.Q_below (by (with_reducible repeat (first | apply Kd.Q_alloc | apply Kd.Q_drewN | apply Kd.Q_drew)); exact HO424.out) hb); replace BK414 := Aside0.mk (bb BK414 hb); replace HB := Aside0.mk (below_step (bw HB) hb); (try clear hb); (try clear hb2); (try clear hk); (try clear hi)))
         go_meet
         case rel => exact ⟨_, (t425.extract 0 ((ji26) : Int).toNat), (wrap64 ((wrap64 ((wrap64 (a0_1 + (t419.length : Int))) - 1)) + 1)), (by first | rfl | (simp; done) | (simp only [← hji26] <;> (first | rfl | simp)) | (simp [*]; done)), (by first | rfl | (simp; done) | (simp [*]; done)), H', ⟨by have := HJ4.out; first | omega | exact Nat.le_refl _⟩, ⟨by (with_reducible repeat (first | refine blk_drewN ?_ _ | refine blk_drew ?_ | refine blk_alloc ?_ _)); exact BK414.out⟩, ⟨bw HB⟩⟩
        ·rw [if_neg c28] at H
         exact absurd H (by simp)
       ·rw [if_neg c27] at H
        exact absurd H (by simp)
      ·rw [if_neg c25] at H
       have c25b0 : decide ((wrap64 (a2 + 1)) < (t425.size : Int)) = false := decide_eq_false c25
       clear c25
       have H' := Aside0.mk H
       clear H
       try go_wp2
       replace BK414 := Aside0.mk (blk_drew BK414.out)
       replace HB := Aside0.mk (below_drew1 HB.out)
       refine start_ (n := 9) (S := fun w' => w'.cell? ⟨gb414, 0, none⟩ = some (.int .i64 a0_0) ∧ w'.cell? ⟨gb414, 1, none⟩ = some (.int .i64 a0_1)) (ds := []) #[false, false, false, false, false, false, false, false, false] (by kernel_rfl) rfl rfl ⟨(blk_cell BK414.out 0).trans rfl, (blk_cell BK414.out 1).trans rfl⟩ (fun hHeld => ?_); refine with_tabW environref03_Float.tab5 environref03_Float.bits5 (fun HT_ HW_ => ?_)
       generalize w19.drew = w36 at BK414 HB hHeld ⊢
       refine pu 0 37 (bl 9 1) HT_ ?_
       refine pu 2 39 (bl 9 5) HT_ ?_
       refine ta 1 38 (bl 9 7) HT_ HW_ hHeld ?_
       refine ta 3 40 (bl 9 15) HT_ HW_ hHeld ?_
       refine one_ (i := 4) (N := some 41) #[true, true, true, true, true, false, false, false, false] rfl rfl (one_of HT_.out (by kernel_rfl)) (by decide) (fun K hK => ?_)
       refine goes_ Tryz.func50 (by kernel_rfl) rfl #[.int .i64 a0_0] (by rfl) rfl rfl (by (try simp only [List.map_toArray, List.map_cons, List.map_nil]); first | done | rfl | (simp only [List.length_drop, List.length_take]; rfl)) ?_
       with_reducible refine (environref02_Of.calls kj4 a0_0 t419 _ A22.out).mono ?_
       rintro e w37 ⟨v420, rfl, ho0, hb⟩
       refine ⟨_, rfl, ?_⟩
       have HO421 := Aside0.mk (Kd.R_lower ho0 (below_size (bw HB)))
       replace BK414 := Aside0.mk (bb BK414 hb)
       replace HB := Aside0.mk (below_step (bw HB) hb)
       (try clear hb)
       (try clear hb2)
       (try clear hk)
       (try clear hi)
       (try clear ho0)
       obtain ⟨Ao38, co38, eo38⟩ := Kd.R_slice HO421.out
       (first | subst eo38 | (injection eo38 with f1_ f2_ f3_; have f4_ := f1_.symm; have f5_ := f3_.symm; clear f1_ f2_ f3_; subst f4_; subst f5_))
       refine hK.out _ _ ⟨(blk_cell BK414.out 0).trans rfl, (blk_cell BK414.out 1).trans rfl⟩ (fun hHeld => ?_)
       clear hK K
       refine norm_ (a' := ?_) ?_ ?_
       rotate_left
       ·show Act.put _ (some 41) _ = _
        simp only [sx, i64_w, i32_w]
        rfl
       refine pu 5 42 (bl 9 63) HT_ ?_
       refine pu 6 43 (bl 9 127) HT_ ?_
       refine pu 7 44 (bl 9 255) HT_ ?_
       refine pu 8 10 (bl 9 511) HT_ ?_
       refine done_ (done_of HT_.out (by kernel_rfl)) ?_
       obtain ⟨hcz39_0, hcz39_1, hfz39_0, hfz39_1⟩ := cf2 BK414
       try go_wp2_with (first | ((with_reducible refine gate_callee (f := 54) rfl ?_); refine goesL_ (some 49) rfl rfl Tryz.func54 (by kernel_rfl) rfl #[.agg #[.int .i64 a0_0, .int .i64 a0_1], .int .i64 (wrap64 (a2 - (wrap64 ((wrap64 (a0_1 + (t419.length : Int))) - 1))))] rfl (by (try simp only [List.map_toArray, List.map_cons, List.map_nil]); first | done | rfl | (simp only [List.length_drop, List.length_take]; rfl)) ?_; (with_reducible refine (environref03_rounded.calls kj4 a0_0 a0_1 (wrap64 (a2 - (wrap64 ((wrap64 (a0_1 + (t419.length : Int))) - 1)))) t422 _ A23.out).mono ?_); rintro e w40 ⟨v423, rfl, ho0, hb⟩; refine ⟨_, rfl, ?_⟩; have HO424 := Aside0.mk (Kd.Q_lower (Kd.Q_new' ho0 (Kd.R_lt (by (with_reducible repeat (first | apply Kd.R_alloc | apply Kd.R_drewN | apply Kd.R_drew)); exact HO421.out))) (below_size (bw HB))); replace HO421 := Aside0.mk (Kd.R_elder' (by (with_reducible repeat (first | apply Kd.R_alloc | apply Kd.R_drewN | apply Kd.R_drew)); exact HO421.out) (Kd.Q_base ho0) hb); replace BK414 := Aside0.mk (bb BK414 hb); replace HB := Aside0.mk (below_step (bw HB) hb); (try clear hb); (try clear hb2); (try clear hk); (try clear hi); (try clear ho0); obtain ⟨Ao41, co41, eo41, _⟩ := Kd.Q_slice HO424.out; subst eo41) | ((with_reducible refine gate_callee (f := 49) rfl ?_); refine goesL_ (some 50) rfl rfl Tryz.func49 (by kernel_rfl) rfl #[.slice Ao41 t422.length co41] rfl (by (try simp only [List.map_toArray, List.map_cons, List.map_nil]); first | done | rfl | (simp only [List.length_drop, List.length_take]; rfl)) ?_; (with_reducible refine (environref03_decimal.calls kj4 _ _ t422 t425 _ ?side1 ?side2 A24.out).mono ?_); (case side1 => repeat (first | exact (Kd.Q_reads' HO424.out).2.2 | (with_reducible refine Kd.C_alloc ?_ _) | (with_reducible refine Kd.C_drewN ?_ _) | (with_reducible refine Kd.C_drew ?_))); (case side2 => exact (Kd.Q_reads' HO424.out).2.1); rintro e w42 ⟨rfl, hb⟩; refine ⟨_, rfl, ?_⟩; replace HO421 := Aside0.mk (Kd.R_below (by (with_reducible repeat (first | apply Kd.R_alloc | apply Kd.R_drewN | apply Kd.R_drew)); exact HO421.out) hb); replace HO424 := Aside0.mk (Kd.Q_below (by (with_reducible repeat (first | apply Kd.Q_alloc | apply Kd.Q_drewN | apply Kd.Q_drew)); exact HO424.out) hb); replace BK414 := Aside0.mk (bb BK414 hb); replace HB := Aside0.mk (below_step (bw HB) hb); (try clear hb); (try clear hb2); (try clear hk); (try clear hi)))
       go_meet
       case rel => exact ⟨_, (t425), (wrap64 ((wrap64 (a0_1 + (t419.length : Int))) - 1)), (by first | rfl | (simp; done) | (simp [*]; done)), (by first | rfl | (simp; done) | (simp [*]; done)), H', ⟨by have := HJ4.out; first | omega | exact Nat.le_refl _⟩, ⟨by (with_reducible repeat (first | refine blk_drewN ?_ _ | refine blk_drew ?_ | refine blk_alloc ?_ _)); exact BK414.out⟩, ⟨bw HB⟩⟩
    case rest =>
     clear HC18
     try clear c1
     try clear c2
     try clear p2
     try clear c4
     try clear c5
     try clear p6
     try clear c8
     try clear c10
     try clear c11
     try clear c11b0
     try clear c12
     try clear c12b0
     try clear c15
     try clear c16
     try clear c21
     try clear c21b0
     try clear c21b1
     try clear c25
     try clear c25b0
     try clear c27
     try clear c27b0
     try clear c27b1
     try clear c28
     try clear c28b0
     try clear c28b1
     try clear hcz14_0
     try clear hcz14_1
     try clear hcz20_0
     try clear hcz20_1
     try clear hcz32_0
     try clear hcz32_1
     try clear hcz39_0
     try clear hcz39_1
     try clear hfz14_0
     try clear hfz14_1
     try clear hfz20_0
     try clear hfz20_1
     try clear hfz32_0
     try clear hfz32_1
     try clear hfz39_0
     try clear hfz39_1
     try clear p2
     obtain ⟨kq, x9_17, x10_17, rfl, rfl, HA, HJ17, BK414, HB⟩ := hcut
     cases kq with
     | zero => exact absurd HA.out (by simp [environref03_Float.j1])
     | succ kj17 =>
      have H := HA.out
      clear HA
      simp only [environref03_Float.j1] at H
      have HC43 := Aside0.mk H
      clear H
      go_upto_if 63 with (fail)
      go_cut [9] (fun v9 wc => ∃ (kq : Nat) (x9_42 : ByteArray), v9 = .string x9_42 ∧ Aside0 (environref03_Float.j2 kq a1 a3 x9_42 x10_17 a0_0 a0_1 = some r) ∧ Aside0 (kq ≤ kj17) ∧ Aside0 (wc.heap[gb414]? = some (.cells #[.int .i64 a0_0, .int .i64 a0_1] 23 (0, 0))) ∧ Aside0 (Below w.heap.size w wc))
      case first =>
       have H := HC43.out
       clear HC43
       by_cases c44 : a2 > 0
       ·rw [if_pos c44] at H
        have c44b0 : decide (0 < a2) = true := decide_eq_true c44
        clear c44
        (first | rw [c44b0] | (simp only [i64_w, i32_w]; rw [c44b0]) | skip)
        by_cases c45 : 0 ≤ 1
        ·rw [if_pos c45] at H
         have c45b0 := eq_true c45
         have c45b1 : decide (0 ≤ 1) = true := decide_eq_true c45
         clear c45
         by_cases c46 : 1 ≤ (x9_17.size : Int)
         ·rw [if_pos c46] at H
          have c46b0 := eq_true c46
          have c46b1 : decide (1 ≤ (x9_17.size : Int)) = true := decide_eq_true c46
          clear c46
          obtain ⟨XA_, hXA_⟩ : ∃ X : ByteArray, (x9_17.extract 0 1) = X := ⟨_, rfl⟩
          obtain ⟨XR_, hXR_⟩ : ∃ X : ByteArray, (x9_17.extract 1 x9_17.size) = X := ⟨_, rfl⟩
          rw [hXR_, hXA_] at H
          by_cases c47 : XA_.size + 1 ≤ 9223372036854775807
          ·rw [if_pos c47] at H
           have c47b0 := eq_true c47
           have c47b1 : decide (XA_.size + 1 ≤ 9223372036854775807) = true := decide_eq_true c47
           try have c47b2 : (9223372036854775807 < XA_.size + 1) = False := eq_false (Nat.not_lt.2 c47)
           have c48b0 := eq_true (of_decide_eq_true (by first | (with_reducible assumption) | assumption) : 1 ≤ (x9_17.size : Int))
           by_cases c49 : (XA_ ++ (⟨#[46]⟩ : ByteArray)).size + XR_.size ≤ 9223372036854775807
           ·rw [if_pos c49] at H
            have c49b0 := eq_true c49
            have c49b1 : decide ((XA_ ++ (⟨#[46]⟩ : ByteArray)).size + XR_.size ≤ 9223372036854775807) = true := decide_eq_true c49
            try have c49b2 : (9223372036854775807 < (XA_ ++ (⟨#[46]⟩ : ByteArray)).size + XR_.size) = False := eq_false (Nat.not_lt.2 c49)
            have c49s : (9223372036854775807 < XA_.size + 1 + XR_.size) = False := eq_false (Nat.not_lt.2 (by have h := c49; simp only [ByteArray.size_append] at h; exact h))
            have H' := Aside0.mk H
            clear H
            try go_wp2
            replace BK414 := Aside0.mk (blk_drew BK414.out)
            replace HB := Aside0.mk (below_drew1 HB.out)
            refine start_ (n := 7) (S := fun w' => True) (ds := []) #[false, false, false, false, false, false, false] (by kernel_rfl) rfl rfl trivial (fun hHeld => ?_)
            generalize wc.drew = w50 at BK414 HB hHeld ⊢
            refine pure_ (i := 0) (N := some 64) (v := ?_) (a' := ?_) #[true, false, false, false, false, false, false] rfl rfl (by kernel_rfl) (fun _ _ _ h => h) (Or.inl ⟨by rfl, ?_⟩) ?_ ?_
            rotate_left
            ·intro w'
             go_simp
             with_reducible rfl
            rotate_left
            ·simp only [sx, i64_w, i32_w]
             rfl
            refine pure_ (i := 1) (N := some 65) (v := ?_) (a' := ?_) #[true, true, false, false, false, false, false] rfl rfl (by kernel_rfl) (fun _ _ _ h => h) (Or.inl ⟨by rfl, ?_⟩) ?_ ?_
            rotate_left
            ·intro w'
             go_simp
             with_reducible rfl
            rotate_left
            ·simp only [sx, i64_w, i32_w]
             rfl
            refine pure_ (i := 2) (N := some 66) (v := ?_) (a' := ?_) #[true, true, true, false, false, false, false] rfl rfl (by kernel_rfl) (fun _ _ _ h => h) (Or.inl ⟨by rfl, ?_⟩) ?_ ?_
            rotate_left
            ·intro w'
             go_simp
             with_reducible rfl
            rotate_left
            ·simp only [sx, i64_w, i32_w]
             rfl
            refine pure_ (i := 3) (N := some 67) (v := ?_) (a' := ?_) #[true, true, true, true, false, false, false] rfl rfl (by kernel_rfl) (fun _ _ _ h => h) (Or.inl ⟨by rfl, ?_⟩) ?_ ?_
            rotate_left
            ·intro w'
             go_simp
             with_reducible rfl
            rotate_left
            ·simp only [sx, i64_w, i32_w]
             rfl
            refine pure_ (i := 4) (N := some 68) (v := ?_) (a' := ?_) #[true, true, true, true, true, false, false] rfl rfl (by kernel_rfl) (fun _ _ _ h => h) (Or.inl ⟨by rfl, ?_⟩) ?_ ?_
            rotate_left
            ·intro w'
             go_simp
             with_reducible rfl
            rotate_left
            ·simp only [sx, i64_w, i32_w]
             rfl
            refine pure_ (i := 5) (N := some 69) (v := ?_) (a' := ?_) #[true, true, true, true, true, true, false] rfl rfl (by kernel_rfl) (fun _ _ _ h => h) (Or.inl ⟨by rfl, ?_⟩) ?_ ?_
            rotate_left
            ·intro w'
             go_simp
             with_reducible rfl
            rotate_left
            ·simp only [sx, i64_w, i32_w]
             rfl
            refine pure_ (i := 6) (N := some 9) (v := ?_) (a' := ?_) #[true, true, true, true, true, true, true] rfl rfl (by kernel_rfl) (fun _ _ _ h => h) (Or.inl ⟨by rfl, ?_⟩) ?_ ?_
            rotate_left
            ·intro w'
             go_simp
             with_reducible rfl
            rotate_left
            ·simp only [sx, i64_w, i32_w]
             rfl
            refine done_ (by kernel_rfl) ?_
            try go_wp2
            go_meet
            case rel => exact ⟨_, ((XA_ ++ (⟨#[46]⟩ : ByteArray)) ++ XR_), (by first | rfl | (simp; done) | (simp [*]; done)), H', ⟨by have := HJ4.out; have := HJ17.out; first | omega | exact Nat.le_refl _⟩, ⟨by (with_reducible repeat (first | refine blk_drewN ?_ _ | refine blk_drew ?_ | refine blk_alloc ?_ _)); exact BK414.out⟩, ⟨bw HB⟩⟩
           ·rw [if_neg c49] at H
            exact absurd H (by simp)
          ·rw [if_neg c47] at H
           exact absurd H (by simp)
         ·rw [if_neg c46] at H
          exact absurd H (by simp)
        ·rw [if_neg c45] at H
         exact absurd H (by simp)
       ·rw [if_neg c44] at H
        have c44b0 : decide (0 < a2) = false := decide_eq_false c44
        clear c44
        (first | rw [c44b0] | (simp only [i64_w, i32_w]; rw [c44b0]) | skip)
        have H' := Aside0.mk H
        clear H
        go_wp2
        go_meet
        case rel => exact ⟨_, (x9_17), (by first | rfl | (simp; done) | (simp [*]; done)), H', ⟨by have := HJ4.out; have := HJ17.out; first | omega | exact Nat.le_refl _⟩, ⟨by (with_reducible repeat (first | refine blk_drewN ?_ _ | refine blk_drew ?_ | refine blk_alloc ?_ _)); exact BK414.out⟩, ⟨bw HB⟩⟩
      case rest =>
       clear HC43
       try clear c1
       try clear c2
       try clear p2
       try clear c4
       try clear c5
       try clear p6
       try clear c8
       try clear c10
       try clear c11
       try clear c11b0
       try clear c12
       try clear c12b0
       try clear c15
       try clear c16
       try clear c21
       try clear c21b0
       try clear c21b1
       try clear c25
       try clear c25b0
       try clear c27
       try clear c27b0
       try clear c27b1
       try clear c28
       try clear c28b0
       try clear c28b1
       try clear c44
       try clear c44b0
       try clear c45
       try clear c45b0
       try clear c45b1
       try clear c46
       try clear c46b0
       try clear c46b1
       try clear c47
       try clear c47b0
       try clear c47b1
       try clear c47b2
       try clear c48
       try clear c48b0
       try clear c49
       try clear c49b0
       try clear c49b1
       try clear c49b2
       try clear c50
       try clear hcz14_0
       try clear hcz14_1
       try clear hcz20_0
       try clear hcz20_1
       try clear hcz32_0
       try clear hcz32_1
       try clear hcz39_0
       try clear hcz39_1
       try clear hfz14_0
       try clear hfz14_1
       try clear hfz20_0
       try clear hfz20_1
       try clear hfz32_0
       try clear hfz32_1
       try clear hfz39_0
       try clear hfz39_1
       try clear p2
       try clear p6
       obtain ⟨kq, x9_42, rfl, HA, HJ42, BK414, HB⟩ := hcut
       cases kq with
       | zero => exact absurd HA.out (by simp [environref03_Float.j2])
       | succ kj42 =>
        have H := HA.out
        clear HA
        simp only [environref03_Float.j2] at H
        replace H := Option.bind_eq_some_iff.mp H
        obtain ⟨t426, A510, H⟩ := H
        replace H : (if 0 < (t426.size : Int) then (if (bt t426 0) = 42 then (if a1 = 0 then (some (⟨#[42]⟩ : ByteArray)) else ((environref03_size.f a1).bind fun t427 => ((environref03_repeat.f kj42 42 t427).bind fun t428 => (some t428)))) else ((environref03_sign.f (decide (a0_0 < 0)) a1).bind fun t429 => (if t429.size + x9_42.size ≤ 9223372036854775807 then (if (t429 ++ x9_42).size + 1 ≤ 9223372036854775807 then (if ((t429 ++ x9_42) ++ (⟨#[101]⟩ : ByteArray)).size + t426.size ≤ 9223372036854775807 then ((environref03_fill.f kj42 (((t429 ++ x9_42) ++ (⟨#[101]⟩ : ByteArray)) ++ t426) a1).bind fun t430 => (some t430)) else (none)) else (none)) else (none)))) else (none)) = some r := H
        have A51 := Aside0.mk A510
        clear A510
        by_cases c52 : 0 < (t426.size : Int)
        ·rw [if_pos c52] at H
         have c52b0 : decide (0 < (t426.size : Int)) = true := decide_eq_true c52
         have c52b1 : decide (0 < t426.size) = true := decide_eq_true (by omega)
         clear c52
         by_cases c54 : (bt t426 0) = 42
         ·rw [if_pos c54] at H
          have c54b0 : ((bt t426 0) == 42) = true := beq_iff_eq.mpr c54
          have c54b1 : ((bt t426 0) != 42) = false := bne_eq_false_iff_eq.mpr c54
          clear c54
          by_cases c55 : a1 = 0
          ·rw [if_pos c55] at H
           have c55b0 : (a1 == 0) = true := beq_iff_eq.mpr c55
           have c55b1 : (a1 != 0) = false := bne_eq_false_iff_eq.mpr c55
           clear c55
           obtain rfl := Option.some.inj H
           go_wp2_with (first | ((with_reducible refine gate_callee (f := 13) rfl ?_); refine goesL_ (some 72) rfl rfl Tryz.func13 (by kernel_rfl) rfl #[.int .i64 x10_17, .int .i64 a3] rfl (by (try simp only [List.map_toArray, List.map_cons, List.map_nil]); first | done | rfl | (simp only [List.length_drop, List.length_take]; rfl)) ?_; (with_reducible refine (environref03_Whole.calls kj42 x10_17 a3 t426 _ A51.out).mono ?_); rintro e w56 ⟨rfl, hb⟩; refine ⟨_, rfl, ?_⟩; replace BK414 := Aside0.mk (bb BK414 hb); replace HB := Aside0.mk (below_step (bw HB) hb); (try clear hb); (try clear hb2); (try clear hk); (try clear hi); have p53 : 0 ≤ (0 : Int) := (by omega); have q53 : 0 < t426.size := (by have : (0 : Int) < (t426.size : Int) := of_decide_eq_true (by first | (with_reducible assumption) | assumption); omega); have hx53 : ∀ h : 0 < t426.size, ((t426[0]'h).toNat : Int) = bt t426 0 := bt_at t426 0; clear p53; have qi53 : (0 < (t426.size : Int)) = True := eq_true (of_decide_eq_true (by first | (with_reducible assumption) | assumption)); replace q53 := eq_true q53))
           go_ret
           exact ⟨by first | rfl | (simp [errW_none, errW_some] <;> rfl) | (simp [*, errW_none, errW_some] <;> rfl), bw HB⟩
          ·rw [if_neg c55] at H
           have c55b0 : (a1 == 0) = false := beq_eq_false_iff_ne.mpr c55
           have c55b1 : (a1 != 0) = true := bne_iff_ne.mpr c55
           replace H := Option.bind_eq_some_iff.mp H
           obtain ⟨t427, A570, H⟩ := H
           replace H : ((environref03_repeat.f kj42 42 t427).bind fun t428 => (some t428)) = some r := H
           have A57 := Aside0.mk A570
           clear A570
           replace H := Option.bind_eq_some_iff.mp H
           obtain ⟨t428, A580, H⟩ := H
           replace H : (some t428) = some r := H
           have A58 := Aside0.mk A580
           clear A580
           obtain rfl := Option.some.inj H
           go_wp2_with (first | ((with_reducible refine gate_callee (f := 13) rfl ?_); refine goesL_ (some 72) rfl rfl Tryz.func13 (by kernel_rfl) rfl #[.int .i64 x10_17, .int .i64 a3] rfl (by (try simp only [List.map_toArray, List.map_cons, List.map_nil]); first | done | rfl | (simp only [List.length_drop, List.length_take]; rfl)) ?_; (with_reducible refine (environref03_Whole.calls kj42 x10_17 a3 t426 _ A51.out).mono ?_); rintro e w59 ⟨rfl, hb⟩; refine ⟨_, rfl, ?_⟩; replace BK414 := Aside0.mk (bb BK414 hb); replace HB := Aside0.mk (below_step (bw HB) hb); (try clear hb); (try clear hb2); (try clear hk); (try clear hi); have p53 : 0 ≤ (0 : Int) := (by omega); have q53 : 0 < t426.size := (by have : (0 : Int) < (t426.size : Int) := of_decide_eq_true (by first | (with_reducible assumption) | assumption); omega); have hx53 : ∀ h : 0 < t426.size, ((t426[0]'h).toNat : Int) = bt t426 0 := bt_at t426 0; clear p53; have qi53 : (0 < (t426.size : Int)) = True := eq_true (of_decide_eq_true (by first | (with_reducible assumption) | assumption)); replace q53 := eq_true q53) | ((with_reducible refine gate_callee (f := 52) rfl ?_); refine goesL_ (some 79) rfl rfl Tryz.func52 (by kernel_rfl) rfl #[.int .i64 a1] rfl (by (try simp only [List.map_toArray, List.map_cons, List.map_nil]); first | done | rfl | (simp only [List.length_drop, List.length_take]; rfl)) ?_; (with_reducible refine (environref03_size.calls a1 t427 _ A57.out).mono ?_); rintro e w' ⟨rfl, ⟨nd, rfl⟩⟩; refine ⟨_, rfl, ?_⟩) | ((with_reducible refine gate_callee (f := 53) rfl ?_); refine goesL_ (some 80) rfl rfl Tryz.func53 (by kernel_rfl) rfl #[.int .u8 42, .int .i64 t427] rfl (by (try simp only [List.map_toArray, List.map_cons, List.map_nil]); first | done | rfl | (simp only [List.length_drop, List.length_take]; rfl)) ?_; (with_reducible refine (environref03_repeat.calls kj42 42 t427 t428 _ A58.out).mono ?_); rintro e w60 ⟨rfl, hb⟩; refine ⟨_, rfl, ?_⟩; replace BK414 := Aside0.mk (bb BK414 hb); replace HB := Aside0.mk (below_step (bw HB) hb); (try clear hb); (try clear hb2); (try clear hk); (try clear hi)))
           go_ret
           exact ⟨by first | rfl | (simp [errW_none, errW_some] <;> rfl) | (simp [*, errW_none, errW_some] <;> rfl), bw HB⟩
         ·rw [if_neg c54] at H
          have c54b0 : ((bt t426 0) == 42) = false := beq_eq_false_iff_ne.mpr c54
          have c54b1 : ((bt t426 0) != 42) = true := bne_iff_ne.mpr c54
          replace H := Option.bind_eq_some_iff.mp H
          obtain ⟨t429, A610, H⟩ := H
          replace H : (if t429.size + x9_42.size ≤ 9223372036854775807 then (if (t429 ++ x9_42).size + 1 ≤ 9223372036854775807 then (if ((t429 ++ x9_42) ++ (⟨#[101]⟩ : ByteArray)).size + t426.size ≤ 9223372036854775807 then ((environref03_fill.f kj42 (((t429 ++ x9_42) ++ (⟨#[101]⟩ : ByteArray)) ++ t426) a1).bind fun t430 => (some t430)) else (none)) else (none)) else (none)) = some r := H
          have A61 := Aside0.mk A610
          clear A610
          by_cases c62 : t429.size + x9_42.size ≤ 9223372036854775807
          ·rw [if_pos c62] at H
           have c62b0 := eq_true c62
           have c62b1 : decide (t429.size + x9_42.size ≤ 9223372036854775807) = true := decide_eq_true c62
           try have c62b2 : (9223372036854775807 < t429.size + x9_42.size) = False := eq_false (Nat.not_lt.2 c62)
           by_cases c63 : (t429 ++ x9_42).size + 1 ≤ 9223372036854775807
           ·rw [if_pos c63] at H
            have c63b0 := eq_true c63
            have c63b1 : decide ((t429 ++ x9_42).size + 1 ≤ 9223372036854775807) = true := decide_eq_true c63
            try have c63b2 : (9223372036854775807 < (t429 ++ x9_42).size + 1) = False := eq_false (Nat.not_lt.2 c63)
            have c63s : (9223372036854775807 < t429.size + x9_42.size + 1) = False := eq_false (Nat.not_lt.2 (by have h := c63; simp only [ByteArray.size_append] at h; exact h))
            by_cases c64 : ((t429 ++ x9_42) ++ (⟨#[101]⟩ : ByteArray)).size + t426.size ≤ 9223372036854775807
            ·rw [if_pos c64] at H
             have c64b0 := eq_true c64
             have c64b1 : decide (((t429 ++ x9_42) ++ (⟨#[101]⟩ : ByteArray)).size + t426.size ≤ 9223372036854775807) = true := decide_eq_true c64
             try have c64b2 : (9223372036854775807 < ((t429 ++ x9_42) ++ (⟨#[101]⟩ : ByteArray)).size + t426.size) = False := eq_false (Nat.not_lt.2 c64)
             have c64s : (9223372036854775807 < t429.size + x9_42.size + 1 + t426.size) = False := eq_false (Nat.not_lt.2 (by have h := c64; simp only [ByteArray.size_append] at h; exact h))
             replace H := Option.bind_eq_some_iff.mp H
             obtain ⟨t430, A650, H⟩ := H
             replace H : (some t430) = some r := H
             have A65 := Aside0.mk A650
             clear A650
             obtain rfl := Option.some.inj H
             go_wp2_with (first | ((with_reducible refine gate_callee (f := 13) rfl ?_); refine goesL_ (some 72) rfl rfl Tryz.func13 (by kernel_rfl) rfl #[.int .i64 x10_17, .int .i64 a3] rfl (by (try simp only [List.map_toArray, List.map_cons, List.map_nil]); first | done | rfl | (simp only [List.length_drop, List.length_take]; rfl)) ?_; (with_reducible refine (environref03_Whole.calls kj42 x10_17 a3 t426 _ A51.out).mono ?_); rintro e w66 ⟨rfl, hb⟩; refine ⟨_, rfl, ?_⟩; replace BK414 := Aside0.mk (bb BK414 hb); replace HB := Aside0.mk (below_step (bw HB) hb); (try clear hb); (try clear hb2); (try clear hk); (try clear hi); have p53 : 0 ≤ (0 : Int) := (by omega); have q53 : 0 < t426.size := (by have : (0 : Int) < (t426.size : Int) := of_decide_eq_true (by first | (with_reducible assumption) | assumption); omega); have hx53 : ∀ h : 0 < t426.size, ((t426[0]'h).toNat : Int) = bt t426 0 := bt_at t426 0; clear p53; have qi53 : (0 < (t426.size : Int)) = True := eq_true (of_decide_eq_true (by first | (with_reducible assumption) | assumption)); replace q53 := eq_true q53; obtain ⟨hcz67_0, hcz67_1, hfz67_0, hfz67_1⟩ := cf2 BK414) | ((with_reducible refine gate_callee (f := 48) rfl ?_); refine goesL_ (some 85) rfl rfl Tryz.func48 (by kernel_rfl) rfl #[.bool (decide (a0_0 < 0)), .int .i64 a1] rfl (by (try simp only [List.map_toArray, List.map_cons, List.map_nil]); first | done | rfl | (simp only [List.length_drop, List.length_take]; rfl)) ?_; (with_reducible refine (environref03_sign.calls (decide (a0_0 < 0)) a1 t429 _ A61.out).mono ?_); rintro e w' ⟨rfl, ⟨nd, rfl⟩⟩; refine ⟨_, rfl, ?_⟩) | ((with_reducible refine gate_callee (f := 47) rfl ?_); refine goesL_ (some 92) rfl rfl Tryz.func47 (by kernel_rfl) rfl #[.string (((t429 ++ x9_42) ++ (⟨#[101]⟩ : ByteArray)) ++ t426), .int .i64 a1] rfl (by (try simp only [List.map_toArray, List.map_cons, List.map_nil]); first | done | rfl | (simp only [List.length_drop, List.length_take]; rfl)) ?_; (with_reducible refine (environref03_fill.calls kj42 (((t429 ++ x9_42) ++ (⟨#[101]⟩ : ByteArray)) ++ t426) a1 t430 _ A65.out).mono ?_); rintro e w68 ⟨rfl, hb⟩; refine ⟨_, rfl, ?_⟩; replace BK414 := Aside0.mk (bb BK414 hb); replace HB := Aside0.mk (below_step (bw HB) hb); (try clear hb); (try clear hb2); (try clear hk); (try clear hi)))
             go_ret
             exact ⟨by first | rfl | (simp [errW_none, errW_some] <;> rfl) | (simp [*, errW_none, errW_some] <;> rfl), bw HB⟩
            ·rw [if_neg c64] at H
             exact absurd H (by simp)
           ·rw [if_neg c63] at H
            exact absurd H (by simp)
          ·rw [if_neg c62] at H
           exact absurd H (by simp)
        ·rw [if_neg c52] at H
         exact absurd H (by simp)
end Go.Proofs.YtckbmniiecbalaaGreatDoor.PT
