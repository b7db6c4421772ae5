-- written by a program of this session out of the kit's print (its words and its form)
import Derived.Test.YtckbmniiecbalaaGreatDoorPTgA
import Derived.Test.YtckbmniiecbalaaGreatDoorPTgB
import Derived.Test.YtckbmniiecbalaaGreatDoorPTgC
import Derived.Test.YtckbmniiecbalaaGreatDoorPTsq
import Derived.Test.YtckbmniiecbalaaGreatDoorPTx0
import Derived.Test.YtckbmniiecbalaaGreatDoorPTx2
namespace Go.Proofs.YtckbmniiecbalaaGreatDoor.PT
open Go.RowKit Go.Proofs.YtckbmniiecbalaaGreatDoorW.PrintWords Go.Proofs.YtckbmniiecbalaaGreatDoorW.PrintLast Go.Proofs.YtckbmniiecbalaaGreatDoorW.PrintMore
attribute [local go_sem] max2_int min2_int max_two min_two max_three min_three max_four min_four   -- for this text's walks alone
set_option linter.unusedVariables false
set_option linter.unusedSimpArgs false

attribute [local go_sem high] eqA127
/-! ### reals_exact_round: function 136 -/
mutual
def reals_exact_round.j0 : Nat → Int → Int → Int → Bool → Int → Int → Int → Bool → Int → Int → Option (Int × Int × Int)
 | 0, _, _, _, _, _, _, _, _, _, _ => none
 | k + 1, x1, x2, x8, x221000, x221001, x221002, x221003, x221004, x228000, x228001 => (reals_wide_digits.f x228000 x228001).bind fun t231 => (if t231 > x1 then ((reals_wide_over.f k x228000 x228001 10).bind fun bt232 => (reals_exact_round.j1 k x1 x2 (wrap64 ((wrap64 (x221003 + x8)) + 1)) x221000 x221001 x221002 x221003 x221004 bt232.1 bt232.2.1)) else (reals_exact_round.j1 k x1 x2 (wrap64 (x221003 + x8)) x221000 x221001 x221002 x221003 x221004 x228000 x228001))
def reals_exact_round.j1 : Nat → Int → Int → Int → Bool → Int → Int → Int → Bool → Int → Int → Option (Int × Int × Int)
 | 0, _, _, _, _, _, _, _, _, _, _ => none
 | k + 1, x1, x2, x12, x221000, x221001, x221002, x221003, x221004, x228000, x228001 => if (x228000 == 0 && (x228001 == 0)) = true then (some (0, 0, 0)) else ((reals_wide_digits.f x228000 x228001).bind fun t235 => (if (wrap64 (t235 + (mx (wrap64 (x12 - 400)) 0))) > x1 then (if x2 = 0 then (reals_exact_round.j2 k x1 true x221000 x221001 x221002 x221003 x221004) else (if x2 = 1 then (if x221000 = true then (if x2 = 2 then (reals_exact_round.j2 k x1 x221000 x221000 x221001 x221002 x221003 x221004) else (reals_exact_round.j2 k x1 false x221000 x221001 x221002 x221003 x221004)) else (reals_exact_round.j2 k x1 true x221000 x221001 x221002 x221003 x221004)) else (if x2 = 2 then (reals_exact_round.j2 k x1 x221000 x221000 x221001 x221002 x221003 x221004) else (reals_exact_round.j2 k x1 false x221000 x221001 x221002 x221003 x221004)))) else (reals_exact_round.j3 k x12 x221000 x221001 x221002 x221003 x221004 x228000 x228001)))
def reals_exact_round.j3 : Nat → Int → Bool → Int → Int → Int → Bool → Int → Int → Option (Int × Int × Int)
 | 0, _, _, _, _, _, _, _, _ => none
 | k + 1, x12, x221000, x221001, x221002, x221003, x221004, x228000, x228001 => reals_exact_round.l0 k x12 x221000 x221001 x221002 x221003 x221004 x228000 x228001
def reals_exact_round.l0 : Nat → Int → Bool → Int → Int → Int → Bool → Int → Int → Option (Int × Int × Int)
 | 0, _, _, _, _, _, _, _, _ => none
 | k + 1, x12, x221000, x221001, x221002, x221003, x221004, x228000, x228001 => (reals_wide_over.f k x228000 x228001 10).bind fun bt240 => (if bt240.2.2 = 0 then (reals_exact_round.l0 k (wrap64 (x12 + 1)) x221000 x221001 x221002 x221003 x221004 bt240.1 bt240.2.1) else (if x221000 = true then (some (wrap64 (-(wrap64 (x228001))), x12, 0)) else (some (wrap64 (x228001), x12, 0))))
def reals_exact_round.j2 : Nat → Int → Bool → Bool → Int → Int → Int → Bool → Option (Int × Int × Int)
 | 0, _, _, _, _, _, _, _ => none
 | k + 1, x1, x92, x221000, x221001, x221002, x221003, x221004 => if x92 = true then (some (0, 0, 11)) else ((reals_power.f k x1).bind fun bt236 => ((reals_wide_minus.f bt236.1 bt236.2 0 1).bind fun bt238 => (reals_exact_round.j3 k 400 x221000 x221001 x221002 x221003 x221004 bt238.1 bt238.2)))
end
def reals_exact_round.f (k : Nat) (a0_0 : Bool) (a0_1 : Int) (a0_2 : Int) (a0_3 : Int) (a0_4 : Bool) (a1 : Int) (a2 : Int) : Option (Int × Int × Int) := (reals_wide_digits.f a0_1 a0_2).bind fun t222 => ((reals_wide_cut.f a0_1 a0_2 (mx (mx (wrap64 (t222 - a1)) (wrap64 ((-400) - a0_3))) 0) a0_4).bind fun bt223 => ((reals_exact_away.f a0_0 a0_1 a0_2 a0_3 a0_4 a2 ((Go.bits .and .u64 bt223.2.1 1) == 1) bt223.2.2.1 bt223.2.2.2).bind fun t228 => (if t228 = true then ((reals_wide_plus.f bt223.1 bt223.2.1 0 1).bind fun bt229 => (reals_exact_round.j0 k a1 a2 (mx (mx (wrap64 (t222 - a1)) (wrap64 ((-400) - a0_3))) 0) a0_0 a0_1 a0_2 a0_3 a0_4 bt229.1 bt229.2)) else (reals_exact_round.j0 k a1 a2 (mx (mx (wrap64 (t222 - a1)) (wrap64 ((-400) - a0_3))) 0) a0_0 a0_1 a0_2 a0_3 a0_4 bt223.1 bt223.2.1))))
theorem reals_exact_round.mono_l : ∀ k, (∀ y0 y1 y2 y3 y4 y5 y6 y7 y8 y9, LeO (reals_exact_round.j0 k y0 y1 y2 y3 y4 y5 y6 y7 y8 y9) (reals_exact_round.j0 (k + 1) y0 y1 y2 y3 y4 y5 y6 y7 y8 y9)) ∧ (∀ y0 y1 y2 y3 y4 y5 y6 y7 y8 y9, LeO (reals_exact_round.j1 k y0 y1 y2 y3 y4 y5 y6 y7 y8 y9) (reals_exact_round.j1 (k + 1) y0 y1 y2 y3 y4 y5 y6 y7 y8 y9)) ∧ (∀ y0 y1 y2 y3 y4 y5 y6 y7, LeO (reals_exact_round.j3 k y0 y1 y2 y3 y4 y5 y6 y7) (reals_exact_round.j3 (k + 1) y0 y1 y2 y3 y4 y5 y6 y7)) ∧ (∀ y0 y1 y2 y3 y4 y5 y6 y7, LeO (reals_exact_round.l0 k y0 y1 y2 y3 y4 y5 y6 y7) (reals_exact_round.l0 (k + 1) y0 y1 y2 y3 y4 y5 y6 y7)) ∧ (∀ y0 y1 y2 y3 y4 y5 y6, LeO (reals_exact_round.j2 k y0 y1 y2 y3 y4 y5 y6) (reals_exact_round.j2 (k + 1) y0 y1 y2 y3 y4 y5 y6))
 | 0 => ⟨fun _ _ _ _ _ _ _ _ _ _ r h => by simp [reals_exact_round.j0] at h, fun _ _ _ _ _ _ _ _ _ _ r h => by simp [reals_exact_round.j1] at h, fun _ _ _ _ _ _ _ _ r h => by simp [reals_exact_round.j3] at h, fun _ _ _ _ _ _ _ _ r h => by simp [reals_exact_round.l0] at h, fun _ _ _ _ _ _ _ r h => by simp [reals_exact_round.j2] at h⟩
 | k + 1 => by
  obtain ⟨ih0, ih1, ih2, ih3, ih4⟩ := reals_exact_round.mono_l k
  refine ⟨?_, ?_, ?_, ?_, ?_⟩
  ·intro y0 y1 y2 y3 y4 y5 y6 y7 y8 y9
   unfold reals_exact_round.j0
   repeat' first
   | (with_reducible exact ih0 _ _ _ _ _ _ _ _ _ _)
   | (with_reducible exact ih1 _ _ _ _ _ _ _ _ _ _)
   | (with_reducible exact ih2 _ _ _ _ _ _ _ _)
   | (with_reducible exact ih3 _ _ _ _ _ _ _ _)
   | (with_reducible exact ih4 _ _ _ _ _ _ _)
   | (with_reducible exact reals_power.mono _ _)
   | (with_reducible exact reals_wide_over.mono _ _ _ _)
   | (with_reducible exact LeO.refl _)
   | (with_reducible exact LeO.none _)
   | (with_reducible refine LeO.ite ?_ ?_)
   | (with_reducible refine LeO.bind ?_ (fun _ => ?_))
   | exact ih0 _ _ _ _ _ _ _ _ _ _
   | exact ih1 _ _ _ _ _ _ _ _ _ _
   | exact ih2 _ _ _ _ _ _ _ _
   | exact ih3 _ _ _ _ _ _ _ _
   | exact ih4 _ _ _ _ _ _ _
   | exact reals_power.mono _ _
   | exact reals_wide_over.mono _ _ _ _
   | exact LeO.none _
   | refine LeO.ite ?_ ?_
   | refine LeO.bind ?_ (fun _ => ?_)
  ·intro y0 y1 y2 y3 y4 y5 y6 y7 y8 y9
   unfold reals_exact_round.j1
   repeat' first
   | (with_reducible exact ih0 _ _ _ _ _ _ _ _ _ _)
   | (with_reducible exact ih1 _ _ _ _ _ _ _ _ _ _)
   | (with_reducible exact ih2 _ _ _ _ _ _ _ _)
   | (with_reducible exact ih3 _ _ _ _ _ _ _ _)
   | (with_reducible exact ih4 _ _ _ _ _ _ _)
   | (with_reducible exact reals_power.mono _ _)
   | (with_reducible exact reals_wide_over.mono _ _ _ _)
   | (with_reducible exact LeO.refl _)
   | (with_reducible exact LeO.none _)
   | (with_reducible refine LeO.ite ?_ ?_)
   | (with_reducible refine LeO.bind ?_ (fun _ => ?_))
   | exact ih0 _ _ _ _ _ _ _ _ _ _
   | exact ih1 _ _ _ _ _ _ _ _ _ _
   | exact ih2 _ _ _ _ _ _ _ _
   | exact ih3 _ _ _ _ _ _ _ _
   | exact ih4 _ _ _ _ _ _ _
   | exact reals_power.mono _ _
   | exact reals_wide_over.mono _ _ _ _
   | exact LeO.none _
   | refine LeO.ite ?_ ?_
   | refine LeO.bind ?_ (fun _ => ?_)
  ·intro y0 y1 y2 y3 y4 y5 y6 y7
   unfold reals_exact_round.j3
   repeat' first
   | (with_reducible exact ih0 _ _ _ _ _ _ _ _ _ _)
   | (with_reducible exact ih1 _ _ _ _ _ _ _ _ _ _)
   | (with_reducible exact ih2 _ _ _ _ _ _ _ _)
   | (with_reducible exact ih3 _ _ _ _ _ _ _ _)
   | (with_reducible exact ih4 _ _ _ _ _ _ _)
   | (with_reducible exact reals_power.mono _ _)
   | (with_reducible exact reals_wide_over.mono _ _ _ _)
   | (with_reducible exact LeO.refl _)
   | (with_reducible exact LeO.none _)
   | (with_reducible refine LeO.ite ?_ ?_)
   | (with_reducible refine LeO.bind ?_ (fun _ => ?_))
   | exact ih0 _ _ _ _ _ _ _ _ _ _
   | exact ih1 _ _ _ _ _ _ _ _ _ _
   | exact ih2 _ _ _ _ _ _ _ _
   | exact ih3 _ _ _ _ _ _ _ _
   | exact ih4 _ _ _ _ _ _ _
   | exact reals_power.mono _ _
   | exact reals_wide_over.mono _ _ _ _
   | exact LeO.none _
   | refine LeO.ite ?_ ?_
   | refine LeO.bind ?_ (fun _ => ?_)
  ·intro y0 y1 y2 y3 y4 y5 y6 y7
   unfold reals_exact_round.l0
   repeat' first
   | (with_reducible exact ih0 _ _ _ _ _ _ _ _ _ _)
   | (with_reducible exact ih1 _ _ _ _ _ _ _ _ _ _)
   | (with_reducible exact ih2 _ _ _ _ _ _ _ _)
   | (with_reducible exact ih3 _ _ _ _ _ _ _ _)
   | (with_reducible exact ih4 _ _ _ _ _ _ _)
   | (with_reducible exact reals_power.mono _ _)
   | (with_reducible exact reals_wide_over.mono _ _ _ _)
   | (with_reducible exact LeO.refl _)
   | (with_reducible exact LeO.none _)
   | (with_reducible refine LeO.ite ?_ ?_)
   | (with_reducible refine LeO.bind ?_ (fun _ => ?_))
   | exact ih0 _ _ _ _ _ _ _ _ _ _
   | exact ih1 _ _ _ _ _ _ _ _ _ _
   | exact ih2 _ _ _ _ _ _ _ _
   | exact ih3 _ _ _ _ _ _ _ _
   | exact ih4 _ _ _ _ _ _ _
   | exact reals_power.mono _ _
   | exact reals_wide_over.mono _ _ _ _
   | exact LeO.none _
   | refine LeO.ite ?_ ?_
   | refine LeO.bind ?_ (fun _ => ?_)
  ·intro y0 y1 y2 y3 y4 y5 y6
   unfold reals_exact_round.j2
   repeat' first
   | (with_reducible exact ih0 _ _ _ _ _ _ _ _ _ _)
   | (with_reducible exact ih1 _ _ _ _ _ _ _ _ _ _)
   | (with_reducible exact ih2 _ _ _ _ _ _ _ _)
   | (with_reducible exact ih3 _ _ _ _ _ _ _ _)
   | (with_reducible exact ih4 _ _ _ _ _ _ _)
   | (with_reducible exact reals_power.mono _ _)
   | (with_reducible exact reals_wide_over.mono _ _ _ _)
   | (with_reducible exact LeO.refl _)
   | (with_reducible exact LeO.none _)
   | (with_reducible refine LeO.ite ?_ ?_)
   | (with_reducible refine LeO.bind ?_ (fun _ => ?_))
   | exact ih0 _ _ _ _ _ _ _ _ _ _
   | exact ih1 _ _ _ _ _ _ _ _ _ _
   | exact ih2 _ _ _ _ _ _ _ _
   | exact ih3 _ _ _ _ _ _ _ _
   | exact ih4 _ _ _ _ _ _ _
   | exact reals_power.mono _ _
   | exact reals_wide_over.mono _ _ _ _
   | exact LeO.none _
   | refine LeO.ite ?_ ?_
   | refine LeO.bind ?_ (fun _ => ?_)
theorem reals_exact_round.mono : ∀ a0 a1 a2 a3 a4 a5 a6 k, LeO (reals_exact_round.f k a0 a1 a2 a3 a4 a5 a6) (reals_exact_round.f (k + 1) a0 a1 a2 a3 a4 a5 a6) := by
 intro a0 a1 a2 a3 a4 a5 a6 k
 obtain ⟨ih0, ih1, ih2, ih3, ih4⟩ := reals_exact_round.mono_l k
 unfold reals_exact_round.f
 repeat' first
   | (with_reducible exact ih0 _ _ _ _ _ _ _ _ _ _)
   | (with_reducible exact ih1 _ _ _ _ _ _ _ _ _ _)
   | (with_reducible exact ih2 _ _ _ _ _ _ _ _)
   | (with_reducible exact ih3 _ _ _ _ _ _ _ _)
   | (with_reducible exact ih4 _ _ _ _ _ _ _)
   | (with_reducible exact reals_power.mono _ _)
   | (with_reducible exact reals_wide_over.mono _ _ _ _)
   | (with_reducible exact LeO.refl _)
   | (with_reducible exact LeO.none _)
   | (with_reducible refine LeO.ite ?_ ?_)
   | (with_reducible refine LeO.bind ?_ (fun _ => ?_))
   | exact ih0 _ _ _ _ _ _ _ _ _ _
   | exact ih1 _ _ _ _ _ _ _ _ _ _
   | exact ih2 _ _ _ _ _ _ _ _
   | exact ih3 _ _ _ _ _ _ _ _
   | exact ih4 _ _ _ _ _ _ _
   | exact reals_power.mono _ _
   | exact reals_wide_over.mono _ _ _ _
   | exact LeO.none _
   | refine LeO.ite ?_ ?_
   | refine LeO.bind ?_ (fun _ => ?_)
def reals_exact_round.T1 : Bool × List (List Nat × List Nat) := (true, [([], []), ([0], [0]), ([1], [1]), ([], []), ([2, 3], [2, 3]), ([], []), ([5], [5]), ([6], [6]), ([4, 7], [4, 7]), ([8, 2, 0, 1, 2, 3, 4, 5, 6, 7, 8], [8])])
def reals_exact_round.B1 : List Nat := [0, 1, 3, 0, 15, 0, 32, 96, 255, 511]
theorem reals_exact_round.tab1 : rtab .any (opsOf Tryz.f136 1) = reals_exact_round.T1 := by kernel_rfl
theorem reals_exact_round.bits1 : waitsOk reals_exact_round.T1.2 reals_exact_round.B1 = true := by kernel_rfl
set_option maxHeartbeats 8000000 in
set_option maxRecDepth 100000 in
theorem reals_exact_round.calls (k : Nat) (a0_0 : Bool) (a0_1 : Int) (a0_2 : Int) (a0_3 : Int) (a0_4 : Bool) (a1 : Int) (a2 : Int) (r1 : Int) (r2 : Int) (r3 : Int) (w : World) (h : reals_exact_round.f k a0_0 a0_1 a0_2 a0_3 a0_4 a1 a2 = some (r1, r2, r3)) :
  Calls Tryz.prog 136 #[.agg #[.bool a0_0, .int .u64 a0_1, .int .u64 a0_2, .int .i64 a0_3, .bool a0_4], .int .i64 a1, .int .i64 a2] w fun e w' => e = .returned (.tuple #[.agg #[.int .i64 r1, .int .i64 r2], .int .i64 r3]) ∧ Below w.heap.size w w' := by
 have hu150 := Tryz.underlying150
 have hu23 := Tryz.underlying23
 have hu127 := Tryz.underlying127
 have HB := Aside0.mk (Below.refl w.heap.size w)
 have H : ((reals_wide_digits.f a0_1 a0_2).bind fun t222 => ((reals_wide_cut.f a0_1 a0_2 (mx (mx (wrap64 (t222 - a1)) (wrap64 ((-400) - a0_3))) 0) a0_4).bind fun bt223 => ((reals_exact_away.f a0_0 a0_1 a0_2 a0_3 a0_4 a2 ((Go.bits .and .u64 bt223.2.1 1) == 1) bt223.2.2.1 bt223.2.2.2).bind fun t228 => (if t228 = true then ((reals_wide_plus.f bt223.1 bt223.2.1 0 1).bind fun bt229 => (reals_exact_round.j0 k a1 a2 (mx (mx (wrap64 (t222 - a1)) (wrap64 ((-400) - a0_3))) 0) a0_0 a0_1 a0_2 a0_3 a0_4 bt229.1 bt229.2)) else (reals_exact_round.j0 k a1 a2 (mx (mx (wrap64 (t222 - a1)) (wrap64 ((-400) - a0_3))) 0) a0_0 a0_1 a0_2 a0_3 a0_4 bt223.1 bt223.2.1))))) = some (r1, r2, r3) := h
 clear h
 replace H := Option.bind_eq_some_iff.mp H
 obtain ⟨t222, A40, H⟩ := H
 replace H : ((reals_wide_cut.f a0_1 a0_2 (mx (mx (wrap64 (t222 - a1)) (wrap64 ((-400) - a0_3))) 0) a0_4).bind fun bt223 => ((reals_exact_away.f a0_0 a0_1 a0_2 a0_3 a0_4 a2 ((Go.bits .and .u64 bt223.2.1 1) == 1) bt223.2.2.1 bt223.2.2.2).bind fun t228 => (if t228 = true then ((reals_wide_plus.f bt223.1 bt223.2.1 0 1).bind fun bt229 => (reals_exact_round.j0 k a1 a2 (mx (mx (wrap64 (t222 - a1)) (wrap64 ((-400) - a0_3))) 0) a0_0 a0_1 a0_2 a0_3 a0_4 bt229.1 bt229.2)) else (reals_exact_round.j0 k a1 a2 (mx (mx (wrap64 (t222 - a1)) (wrap64 ((-400) - a0_3))) 0) a0_0 a0_1 a0_2 a0_3 a0_4 bt223.1 bt223.2.1)))) = some (r1, r2, r3) := H
 have A4 := Aside0.mk A40
 clear A40
 obtain ⟨ji5, hji5⟩ : ∃ j_ : Int, (mx (wrap64 (t222 - a1)) (wrap64 ((-400) - a0_3))) = j_ := ⟨_, rfl⟩
 replace H : ((reals_wide_cut.f a0_1 a0_2 (mx (ji5) 0) a0_4).bind fun bt223 => ((reals_exact_away.f a0_0 a0_1 a0_2 a0_3 a0_4 a2 ((Go.bits .and .u64 bt223.2.1 1) == 1) bt223.2.2.1 bt223.2.2.2).bind fun t228 => (if t228 = true then ((reals_wide_plus.f bt223.1 bt223.2.1 0 1).bind fun bt229 => (reals_exact_round.j0 k a1 a2 (mx (ji5) 0) a0_0 a0_1 a0_2 a0_3 a0_4 bt229.1 bt229.2)) else (reals_exact_round.j0 k a1 a2 (mx (ji5) 0) a0_0 a0_1 a0_2 a0_3 a0_4 bt223.1 bt223.2.1)))) = some (r1, r2, r3) := by first | (rw [hji5] at H; exact H) | (simp only [hji5] at H ⊢; exact H)
 (try rw [hji5] at A4)
 have hji5_ : (if (wrap64 (t222 - a1)) < (wrap64 ((-400) - a0_3)) then (wrap64 ((-400) - a0_3)) else (wrap64 (t222 - a1))) = ji5 := hji5
 obtain ⟨ji6, hji6⟩ : ∃ j_ : Int, (mx (ji5) 0) = j_ := ⟨_, rfl⟩
 replace H : ((reals_wide_cut.f a0_1 a0_2 (ji6) a0_4).bind fun bt223 => ((reals_exact_away.f a0_0 a0_1 a0_2 a0_3 a0_4 a2 ((Go.bits .and .u64 bt223.2.1 1) == 1) bt223.2.2.1 bt223.2.2.2).bind fun t228 => (if t228 = true then ((reals_wide_plus.f bt223.1 bt223.2.1 0 1).bind fun bt229 => (reals_exact_round.j0 k a1 a2 ji6 a0_0 a0_1 a0_2 a0_3 a0_4 bt229.1 bt229.2)) else (reals_exact_round.j0 k a1 a2 ji6 a0_0 a0_1 a0_2 a0_3 a0_4 bt223.1 bt223.2.1)))) = some (r1, r2, r3) := by first | (rw [hji6] at H; exact H) | (simp only [hji6] at H ⊢; exact H)
 (try rw [hji6] at A4)
 have hji6_ : (if (ji5) < 0 then 0 else (ji5)) = ji6 := hji6
 replace H := Option.bind_eq_some_iff.mp H
 obtain ⟨⟨t223, t224, t225, t226⟩, A70, H⟩ := H
 replace H : ((reals_exact_away.f a0_0 a0_1 a0_2 a0_3 a0_4 a2 ((Go.bits .and .u64 t224 1) == 1) t225 t226).bind fun t228 => (if t228 = true then ((reals_wide_plus.f t223 t224 0 1).bind fun bt229 => (reals_exact_round.j0 k a1 a2 ji6 a0_0 a0_1 a0_2 a0_3 a0_4 bt229.1 bt229.2)) else (reals_exact_round.j0 k a1 a2 ji6 a0_0 a0_1 a0_2 a0_3 a0_4 t223 t224))) = some (r1, r2, r3) := H
 have A7 := Aside0.mk A70
 clear A70
 replace H := Option.bind_eq_some_iff.mp H
 obtain ⟨t228, A80, H⟩ := H
 replace H : (if t228 = true then ((reals_wide_plus.f t223 t224 0 1).bind fun bt229 => (reals_exact_round.j0 k a1 a2 ji6 a0_0 a0_1 a0_2 a0_3 a0_4 bt229.1 bt229.2)) else (reals_exact_round.j0 k a1 a2 ji6 a0_0 a0_1 a0_2 a0_3 a0_4 t223 t224)) = some (r1, r2, r3) := H
 have A8 := Aside0.mk A80
 clear A80
 have HC9 := Aside0.mk H
 clear H
 go_enter Tryz.func136, Tryz.ntmps136
 try go_wp2_with (first | ((with_reducible refine gate_dst (N := 3) rfl ?_); refine box_event ?hg (N := 3) ?hd (cs := #[.bool a0_0, .int .u64 a0_1, .int .u64 a0_2, .int .i64 a0_3, .bool a0_4]) (t := 150) ?hr ?_; (case hd => rfl); (case hg => rfl); (case hr => first | (go_simp; done) | (go_simp; rfl)); intro gb220 hg w10 hbox hb; have BK220 := Aside0.mk (hbox); have GW220 := Aside0.mk (bs HB hg : w.heap.size ≤ gb220); replace HB := Aside0.mk (below_step (bw HB) hb); clear hb hbox hg) | ((with_reducible refine gate_dst (N := 6) rfl ?_); refine box_event ?hg (N := 6) ?hd (cs := #[.int .i64 0, .int .i64 0]) (t := 23) ?hr ?_; (case hd => rfl); (case hg => rfl); (case hr => first | (go_simp; done) | (go_simp; rfl)); intro gb221 hg w11 hbox hb; have BK221 := Aside0.mk (hbox); have GW221 := Aside0.mk (bs HB hg : w.heap.size ≤ gb221); replace HB := Aside0.mk (below_step (bw HB) hb); have NB220_221 := Aside0.mk (nl BK220 hg); have NB221_220 := Aside0.mk (ng BK220 hg); replace BK220 := Aside0.mk (bb BK220 hb); clear hb hbox hg))
 replace BK220 := Aside0.mk (blk_drew BK220.out)
 replace BK221 := Aside0.mk (blk_drew BK221.out)
 replace HB := Aside0.mk (below_drew1 HB.out)
 refine start_ (n := 10) (S := fun w' => w'.cell? ⟨gb220, 0, none⟩ = some (.bool a0_0) ∧ w'.cell? ⟨gb220, 1, none⟩ = some (.int .u64 a0_1) ∧ w'.cell? ⟨gb220, 2, none⟩ = some (.int .u64 a0_2) ∧ w'.cell? ⟨gb220, 3, none⟩ = some (.int .i64 a0_3) ∧ w'.cell? ⟨gb220, 4, none⟩ = some (.bool a0_4)) (ds := []) #[false, false, false, false, false, false, false, false, false, false] (by kernel_rfl) rfl rfl ⟨(blk_cell BK220.out 0).trans rfl, (blk_cell BK220.out 1).trans rfl, (blk_cell BK220.out 2).trans rfl, (blk_cell BK220.out 3).trans rfl, (blk_cell BK220.out 4).trans rfl⟩ (fun hHeld => ?_); refine with_tabW reals_exact_round.tab1 reals_exact_round.bits1 (fun HT_ HW_ => ?_)
 generalize w11.drew = w12 at BK220 BK221 HB hHeld ⊢
 refine pu 0 16 (bl 10 1) HT_ ?_
 refine pu 3 19 (bl 10 9) HT_ ?_
 refine pu 5 21 (bl 10 41) HT_ ?_
 refine ta 1 17 (bl 10 43) HT_ HW_ hHeld ?_
 refine ta 6 22 (bl 10 107) HT_ HW_ hHeld ?_
 refine pu 7 23 (bl 10 235) HT_ ?_
 refine one_ (i := 2) (N := some 18) #[true, true, true, true, false, true, true, true, false, false] rfl rfl (one_of HT_.out (by kernel_rfl)) (by decide) (fun K hK => ?_)
 refine goes_ Tryz.func112 (by kernel_rfl) rfl #[.agg #[.int .u64 a0_1, .int .u64 a0_2]] (by rfl) rfl rfl (by (try simp only [List.map_toArray, List.map_cons, List.map_nil]); first | done | rfl | (simp only [List.length_drop, List.length_take]; rfl)) ?_
 with_reducible refine (reals_wide_digits.calls a0_1 a0_2 t222 _ A4.out).mono ?_
 rintro e w13 ⟨rfl, hb⟩
 refine ⟨_, rfl, ?_⟩
 replace BK220 := Aside0.mk (bb BK220 hb)
 replace BK221 := Aside0.mk (bb BK221 hb)
 replace HB := Aside0.mk (below_step (bw HB) hb)
 (try clear hb)
 (try clear hb2)
 (try clear hk)
 (try clear hi)
 refine hK.out _ _ ⟨(blk_cell BK220.out 0).trans rfl, (blk_cell BK220.out 1).trans rfl, (blk_cell BK220.out 2).trans rfl, (blk_cell BK220.out 3).trans rfl, (blk_cell BK220.out 4).trans rfl⟩ (fun hHeld => ?_)
 clear hK K
 refine norm_ (a' := ?_) ?_ ?_
 rotate_left
 ·show Act.put _ (some 18) _ = _
  simp only [sx, i64_w, i32_w]
  rfl
 refine pu 4 20 (bl 10 255) HT_ ?_
 refine pu 8 24 (bl 10 511) HT_ ?_
 refine pu 9 8 (bl 10 1023) HT_ ?_
 refine done_ (done_of HT_.out (by kernel_rfl)) ?_
 have hnb14 := NB220_221.out
 have hnc14 := NB221_220.out
 obtain ⟨hcz15_0, hcz15_1, hcz15_2, hcz15_3, hcz15_4, hfz15_0, hfz15_1, hfz15_2, hfz15_3, hfz15_4⟩ := cf5 BK220
 go_upto_if 43 with (first | ((with_reducible refine gate_callee (f := 154) rfl ?_); refine goesL_ (some 31) rfl rfl Tryz.func154 (by kernel_rfl) rfl #[.agg #[.int .u64 a0_1, .int .u64 a0_2], .int .i64 ji6, .bool a0_4] rfl (by (try simp only [List.map_toArray, List.map_cons, List.map_nil]); first | done | (simp only [hji6]; rfl) | rfl | (simp only [List.length_drop, List.length_take]; rfl)) ?_; (with_reducible refine (reals_wide_cut.calls a0_1 a0_2 ji6 a0_4 t223 t224 t225 t226 _ A7.out).mono ?_); rintro e w16 ⟨rfl, hb⟩; refine ⟨_, rfl, ?_⟩; replace BK220 := Aside0.mk (bb BK220 hb); replace BK221 := Aside0.mk (bb BK221 hb); replace HB := Aside0.mk (below_step (bw HB) hb); (try clear hb); (try clear hb2); (try clear hk); (try clear hi)) | ((with_reducible refine gate_dst (N := 9) rfl ?_); refine box_event ?hg (N := 9) ?hd (cs := #[.int .u64 0, .int .u64 0]) (t := 127) ?hr ?_; (case hd => rfl); (case hg => rfl); (case hr => first | (go_simp; done) | (go_simp; rfl)); intro gb227 hg w17 hbox hb; have BK227 := Aside0.mk (hbox); have GW227 := Aside0.mk (bs HB hg : w.heap.size ≤ gb227); replace HB := Aside0.mk (below_step (bw HB) hb); have NB220_227 := Aside0.mk (nl BK220 hg); have NB227_220 := Aside0.mk (ng BK220 hg); replace BK220 := Aside0.mk (bb BK220 hb); have NB221_227 := Aside0.mk (nl BK221 hg); have NB227_221 := Aside0.mk (ng BK221 hg); replace BK221 := Aside0.mk (bb BK221 hb); clear hb hbox hg; have hnb18 := NB227_220.out; have hnc18 := NB220_227.out; have hnb19 := NB227_221.out; have hnc19 := NB221_227.out; obtain ⟨hcz20_0, hcz20_1, hfz20_0, hfz20_1⟩ := cf2 BK227; obtain ⟨hcz21_0, hcz21_1, hcz21_2, hcz21_3, hcz21_4, hfz21_0, hfz21_1, hfz21_2, hfz21_3, hfz21_4⟩ := cf5 BK220) | ((with_reducible refine gate_callee (f := 155) rfl ?_); refine goesL_ (some 43) rfl rfl Tryz.func155 (by kernel_rfl) rfl #[.agg #[.bool a0_0, .int .u64 a0_1, .int .u64 a0_2, .int .i64 a0_3, .bool a0_4], .int .i64 a2, .bool ((Go.bits .and .u64 t224 1) == 1), .int .i64 t225, .bool t226] rfl (by (try simp only [List.map_toArray, List.map_cons, List.map_nil]); first | done | rfl | (simp only [List.length_drop, List.length_take]; rfl)) ?_; (with_reducible refine (reals_exact_away.calls a0_0 a0_1 a0_2 a0_3 a0_4 a2 ((Go.bits .and .u64 t224 1) == 1) t225 t226 t228 _ A8.out).mono ?_); rintro e w22 ⟨rfl, hb⟩; refine ⟨_, rfl, ?_⟩; replace BK220 := Aside0.mk (blk_below (g := gb220) (o := .cells #[.bool a0_0, .int .u64 a0_1, .int .u64 a0_2, .int .i64 a0_3, .bool a0_4] 150 (0, 0)) (by (with_reducible repeat (first | refine blk_drewN ?_ _ | refine blk_drew ?_ | refine blk_alloc ?_ _)); refine blk_far ?_ NB220_227.out _; (with_reducible repeat (first | refine blk_drewN ?_ _ | refine blk_drew ?_ | refine blk_alloc ?_ _)); refine blk_far ?_ NB220_227.out _; (with_reducible repeat (first | refine blk_drewN ?_ _ | refine blk_drew ?_ | refine blk_alloc ?_ _)); exact BK220.out) hb); replace BK221 := Aside0.mk (blk_below (g := gb221) (o := .cells #[.int .i64 0, .int .i64 0] 23 (0, 0)) (by (with_reducible repeat (first | refine blk_drewN ?_ _ | refine blk_drew ?_ | refine blk_alloc ?_ _)); refine blk_far ?_ NB221_227.out _; (with_reducible repeat (first | refine blk_drewN ?_ _ | refine blk_drew ?_ | refine blk_alloc ?_ _)); refine blk_far ?_ NB221_227.out _; (with_reducible repeat (first | refine blk_drewN ?_ _ | refine blk_drew ?_ | refine blk_alloc ?_ _)); exact BK221.out) hb); replace BK227 := Aside0.mk (blk_below (g := gb227) (o := .cells #[.int .u64 t223, .int .u64 t224] 127 (0, 0)) (by (with_reducible repeat (first | refine blk_drewN ?_ _ | refine blk_drew ?_ | refine blk_alloc ?_ _)); refine blk_put (cs := #[.int .u64 t223, .int .u64 0]) ?_ 1 _ rfl; (with_reducible repeat (first | refine blk_drewN ?_ _ | refine blk_drew ?_ | refine blk_alloc ?_ _)); refine blk_put (cs := #[.int .u64 0, .int .u64 0]) ?_ 0 _ rfl; (with_reducible repeat (first | refine blk_drewN ?_ _ | refine blk_drew ?_ | refine blk_alloc ?_ _)); exact BK227.out) hb); replace HB := Aside0.mk (below_step (bw HB) hb); (try clear hb); (try clear hb2); (try clear hk); (try clear hi)))
 (try simp only [sx])
 go_cut [] (fun wc => ∃ (kq : Nat) (x228000_8 : Int) (x228001_8 : Int), Aside0 (reals_exact_round.j0 kq a1 a2 ji6 a0_0 a0_1 a0_2 a0_3 a0_4 x228000_8 x228001_8 = some (r1, r2, r3)) ∧ Aside0 (kq ≤ k) ∧ Aside0 (wc.heap[gb220]? = some (.cells #[.bool a0_0, .int .u64 a0_1, .int .u64 a0_2, .int .i64 a0_3, .bool a0_4] 150 (0, 0))) ∧ Aside0 (wc.heap[gb221]? = some (.cells #[.int .i64 0, .int .i64 0] 23 (0, 0))) ∧ Aside0 (wc.heap[gb227]? = some (.cells #[.int .u64 x228000_8, .int .u64 x228001_8] 127 (0, 0))) ∧ Aside0 (Below w.heap.size w wc))
 case first =>
  have H := HC9.out
  clear HC9
  by_cases c23 : t228 = true
  ·subst c23
   have H1 : ((reals_wide_plus.f t223 t224 0 1).bind fun bt229 => (reals_exact_round.j0 k a1 a2 ji6 a0_0 a0_1 a0_2 a0_3 a0_4 bt229.1 bt229.2)) = some (r1, r2, r3) := by rw [if_pos rfl] at H; exact H
   clear H
   have H := H1
   clear H1
   replace H := Option.bind_eq_some_iff.mp H
   obtain ⟨⟨t229, t230⟩, A240, H⟩ := H
   replace H : (reals_exact_round.j0 k a1 a2 ji6 a0_0 a0_1 a0_2 a0_3 a0_4 t229 t230) = some (r1, r2, r3) := H
   have A24 := Aside0.mk A240
   clear A240
   have H' := Aside0.mk H
   clear H
   have hnb25 := NB227_220.out
   have hnc25 := NB220_227.out
   have hnb26 := NB227_221.out
   have hnc26 := NB221_227.out
   obtain ⟨hcz27_0, hcz27_1, hfz27_0, hfz27_1⟩ := cf2 BK227
   go_wp2_with (first | ((with_reducible refine gate_callee (f := 156) rfl ?_); refine goesL_ (some 46) rfl rfl Tryz.func156 (by kernel_rfl) rfl #[.agg #[.int .u64 t223, .int .u64 t224], .agg #[.int .u64 0, .int .u64 1]] rfl (by (try simp only [List.map_toArray, List.map_cons, List.map_nil]); first | done | rfl | (simp only [List.length_drop, List.length_take]; rfl)) ?_; (with_reducible refine (reals_wide_plus.calls t223 t224 0 1 t229 t230 _ A24.out).mono ?_); rintro e w28 ⟨rfl, hb⟩; refine ⟨_, rfl, ?_⟩; replace BK220 := Aside0.mk (bb BK220 hb); replace BK221 := Aside0.mk (bb BK221 hb); replace BK227 := Aside0.mk (bb BK227 hb); replace HB := Aside0.mk (below_step (bw HB) hb); (try clear hb); (try clear hb2); (try clear hk); (try clear hi); obtain ⟨hcz29_0, hcz29_1, hfz29_0, hfz29_1⟩ := cf2 BK227))
   go_meet
   case rel => exact ⟨_, (t229), (t230), H', ⟨by first | omega | exact Nat.le_refl _⟩, ⟨by (with_reducible repeat (first | refine blk_drewN ?_ _ | refine blk_drew ?_ | refine blk_alloc ?_ _)); refine blk_far ?_ NB220_227.out _; (with_reducible repeat (first | refine blk_drewN ?_ _ | refine blk_drew ?_ | refine blk_alloc ?_ _)); refine blk_far ?_ NB220_227.out _; (with_reducible repeat (first | refine blk_drewN ?_ _ | refine blk_drew ?_ | refine blk_alloc ?_ _)); exact BK220.out⟩, ⟨by (with_reducible repeat (first | refine blk_drewN ?_ _ | refine blk_drew ?_ | refine blk_alloc ?_ _)); refine blk_far ?_ NB221_227.out _; (with_reducible repeat (first | refine blk_drewN ?_ _ | refine blk_drew ?_ | refine blk_alloc ?_ _)); refine blk_far ?_ NB221_227.out _; (with_reducible repeat (first | refine blk_drewN ?_ _ | refine blk_drew ?_ | refine blk_alloc ?_ _)); exact BK221.out⟩, ⟨by (with_reducible repeat (first | refine blk_drewN ?_ _ | refine blk_drew ?_ | refine blk_alloc ?_ _)); refine blk_put (cs := #[.int .u64 t229, .int .u64 t224]) ?_ 1 _ rfl; (with_reducible repeat (first | refine blk_drewN ?_ _ | refine blk_drew ?_ | refine blk_alloc ?_ _)); refine blk_put (cs := #[.int .u64 t223, .int .u64 t224]) ?_ 0 _ rfl; (with_reducible repeat (first | refine blk_drewN ?_ _ | refine blk_drew ?_ | refine blk_alloc ?_ _)); exact BK227.out⟩, ⟨bw HB⟩⟩
  ·replace c23 := Bool.eq_false_iff.mpr c23
   subst c23
   have H1 : (reals_exact_round.j0 k a1 a2 ji6 a0_0 a0_1 a0_2 a0_3 a0_4 t223 t224) = some (r1, r2, r3) := by rw [if_neg (show ¬ (false = true) by decide)] at H; exact H
   clear H
   have H := H1
   clear H1
   have H' := Aside0.mk H
   clear H
   go_wp2
   go_meet
   case rel => exact ⟨_, (t223), (t224), H', ⟨by first | omega | exact Nat.le_refl _⟩, ⟨by (with_reducible repeat (first | refine blk_drewN ?_ _ | refine blk_drew ?_ | refine blk_alloc ?_ _)); exact BK220.out⟩, ⟨by (with_reducible repeat (first | refine blk_drewN ?_ _ | refine blk_drew ?_ | refine blk_alloc ?_ _)); exact BK221.out⟩, ⟨by (with_reducible repeat (first | refine blk_drewN ?_ _ | refine blk_drew ?_ | refine blk_alloc ?_ _)); exact BK227.out⟩, ⟨bw HB⟩⟩
 case rest =>
  clear HC9
  try clear c1
  try clear c2
  try clear p2
  try clear p6
  try clear c11
  try clear c13
  try clear c14
  try clear c15
  try clear c18
  try clear c19
  try clear c23
  try clear c25
  try clear c26
  try clear hcz15_0
  try clear hcz15_1
  try clear hcz15_2
  try clear hcz15_3
  try clear hcz15_4
  try clear hcz20_0
  try clear hcz20_1
  try clear hcz21_0
  try clear hcz21_1
  try clear hcz21_2
  try clear hcz21_3
  try clear hcz21_4
  try clear hcz27_0
  try clear hcz27_1
  try clear hcz29_0
  try clear hcz29_1
  try clear hfz15_0
  try clear hfz15_1
  try clear hfz15_2
  try clear hfz15_3
  try clear hfz15_4
  try clear hfz20_0
  try clear hfz20_1
  try clear hfz21_0
  try clear hfz21_1
  try clear hfz21_2
  try clear hfz21_3
  try clear hfz21_4
  try clear hfz27_0
  try clear hfz27_1
  try clear hfz29_0
  try clear hfz29_1
  obtain ⟨kq, x228000_8, x228001_8, HA, HJ8, BK220, BK221, BK227, HB⟩ := hcut
  cases kq with
  | zero => exact absurd HA.out (by simp [reals_exact_round.j0])
  | succ kj8 =>
   have H := HA.out
   clear HA
   simp only [reals_exact_round.j0] at H
   replace H := Option.bind_eq_some_iff.mp H
   obtain ⟨t231, A300, H⟩ := H
   replace H : (if t231 > a1 then ((reals_wide_over.f kj8 x228000_8 x228001_8 10).bind fun bt232 => (reals_exact_round.j1 kj8 a1 a2 (wrap64 ((wrap64 (a0_3 + ji6)) + 1)) a0_0 a0_1 a0_2 a0_3 a0_4 bt232.1 bt232.2.1)) else (reals_exact_round.j1 kj8 a1 a2 (wrap64 (a0_3 + ji6)) a0_0 a0_1 a0_2 a0_3 a0_4 x228000_8 x228001_8)) = some (r1, r2, r3) := H
   have A30 := Aside0.mk A300
   clear A300
   have HC31 := Aside0.mk H
   clear H
   have hnb32 := NB220_221.out
   have hnc32 := NB221_220.out
   have hnb33 := NB220_227.out
   have hnc33 := NB227_220.out
   have hcz34_0 : wc.cell? ⟨gb220, 0, none⟩ = some (.bool a0_0) := (blk_cell BK220.out 0).trans rfl
   have hcz34_1 : wc.cell? ⟨gb220, 1, none⟩ = some (.int .u64 a0_1) := (blk_cell BK220.out 1).trans rfl
   have hcz34_2 : wc.cell? ⟨gb220, 2, none⟩ = some (.int .u64 a0_2) := (blk_cell BK220.out 2).trans rfl
   have hcz34_3 : wc.cell? ⟨gb220, 3, none⟩ = some (.int .i64 a0_3) := (blk_cell BK220.out 3).trans rfl
   have hcz34_4 : wc.cell? ⟨gb220, 4, none⟩ = some (.bool a0_4) := (blk_cell BK220.out 4).trans rfl
   have hfz34_0 := blk_frozen BK220.out 0
   have hfz34_1 := blk_frozen BK220.out 1
   have hfz34_2 := blk_frozen BK220.out 2
   have hfz34_3 := blk_frozen BK220.out 3
   have hfz34_4 := blk_frozen BK220.out 4
   have hnb35 := NB227_221.out
   have hnc35 := NB221_227.out
   have hcz36_0 : wc.cell? ⟨gb227, 0, none⟩ = some (.int .u64 x228000_8) := (blk_cell BK227.out 0).trans rfl
   have hcz36_1 : wc.cell? ⟨gb227, 1, none⟩ = some (.int .u64 x228001_8) := (blk_cell BK227.out 1).trans rfl
   have hfz36_0 := blk_frozen BK227.out 0
   have hfz36_1 := blk_frozen BK227.out 1
   go_upto_if 54 with (first | ((with_reducible refine gate_callee (f := 112) rfl ?_); refine goesL_ (some 52) rfl rfl Tryz.func112 (by kernel_rfl) rfl #[.agg #[.int .u64 x228000_8, .int .u64 x228001_8]] rfl (by (try simp only [List.map_toArray, List.map_cons, List.map_nil]); first | done | rfl | (simp only [List.length_drop, List.length_take]; rfl)) ?_; (with_reducible refine (reals_wide_digits.calls x228000_8 x228001_8 t231 _ A30.out).mono ?_); rintro e w37 ⟨rfl, hb⟩; refine ⟨_, rfl, ?_⟩; replace BK220 := Aside0.mk (bb BK220 hb); replace BK221 := Aside0.mk (bb BK221 hb); replace BK227 := Aside0.mk (bb BK227 hb); replace HB := Aside0.mk (below_step (bw HB) hb); (try clear hb); (try clear hb2); (try clear hk); (try clear hi)))
   (try simp only [sx])
   go_cut [12] (fun v12 wc => ∃ (kq : Nat) (x12_30 : Int) (x228000_30 : Int) (x228001_30 : Int), v12 = .int .i64 x12_30 ∧ Aside0 (reals_exact_round.j1 kq a1 a2 x12_30 a0_0 a0_1 a0_2 a0_3 a0_4 x228000_30 x228001_30 = some (r1, r2, r3)) ∧ Aside0 (kq ≤ kj8) ∧ Aside0 (wc.heap[gb220]? = some (.cells #[.bool a0_0, .int .u64 a0_1, .int .u64 a0_2, .int .i64 a0_3, .bool a0_4] 150 (0, 0))) ∧ Aside0 (wc.heap[gb221]? = some (.cells #[.int .i64 0, .int .i64 0] 23 (0, 0))) ∧ Aside0 (wc.heap[gb227]? = some (.cells #[.int .u64 x228000_30, .int .u64 x228001_30] 127 (0, 0))) ∧ Aside0 (Below w.heap.size w wc))
   case first =>
    have H := HC31.out
    clear HC31
    by_cases c38 : t231 > a1
    ·rw [if_pos c38] at H
     have c38b0 : decide (a1 < t231) = true := decide_eq_true c38
     clear c38
     (first | rw [c38b0] | (simp only [i64_w, i32_w]; rw [c38b0]) | skip)
     replace H := Option.bind_eq_some_iff.mp H
     obtain ⟨⟨t232, t233, t234⟩, A390, H⟩ := H
     replace H : (reals_exact_round.j1 kj8 a1 a2 (wrap64 ((wrap64 (a0_3 + ji6)) + 1)) a0_0 a0_1 a0_2 a0_3 a0_4 t232 t233) = some (r1, r2, r3) := H
     have A39 := Aside0.mk A390
     clear A390
     have H' := Aside0.mk H
     clear H
     have hnb40 := NB227_220.out
     have hnc40 := NB220_227.out
     have hnb41 := NB227_221.out
     have hnc41 := NB221_227.out
     obtain ⟨hcz42_0, hcz42_1, hfz42_0, hfz42_1⟩ := cf2 BK227
     go_wp2_with (first | ((with_reducible refine gate_callee (f := 157) rfl ?_); refine goesL_ (some 57) rfl rfl Tryz.func157 (by kernel_rfl) rfl #[.agg #[.int .u64 x228000_8, .int .u64 x228001_8], .int .u64 10] rfl (by (try simp only [List.map_toArray, List.map_cons, List.map_nil]); first | done | rfl | (simp only [List.length_drop, List.length_take]; rfl)) ?_; (with_reducible refine (reals_wide_over.calls kj8 x228000_8 x228001_8 10 t232 t233 t234 _ A39.out).mono ?_); rintro e w43 ⟨rfl, hb⟩; refine ⟨_, rfl, ?_⟩; replace BK220 := Aside0.mk (bb BK220 hb); replace BK221 := Aside0.mk (bb BK221 hb); replace BK227 := Aside0.mk (bb BK227 hb); replace HB := Aside0.mk (below_step (bw HB) hb); (try clear hb); (try clear hb2); (try clear hk); (try clear hi); obtain ⟨hcz44_0, hcz44_1, hfz44_0, hfz44_1⟩ := cf2 BK227))
     go_meet
     case rel => exact ⟨_, (wrap64 ((wrap64 (a0_3 + ji6)) + 1)), (t232), (t233), (by first | rfl | (simp; done) | (simp only [← hji6] <;> (first | rfl | simp)) | (simp [*]; done)), H', ⟨by have := HJ8.out; first | omega | exact Nat.le_refl _⟩, ⟨by (with_reducible repeat (first | refine blk_drewN ?_ _ | refine blk_drew ?_ | refine blk_alloc ?_ _)); refine blk_far ?_ NB220_227.out _; (with_reducible repeat (first | refine blk_drewN ?_ _ | refine blk_drew ?_ | refine blk_alloc ?_ _)); refine blk_far ?_ NB220_227.out _; (with_reducible repeat (first | refine blk_drewN ?_ _ | refine blk_drew ?_ | refine blk_alloc ?_ _)); exact BK220.out⟩, ⟨by (with_reducible repeat (first | refine blk_drewN ?_ _ | refine blk_drew ?_ | refine blk_alloc ?_ _)); refine blk_far ?_ NB221_227.out _; (with_reducible repeat (first | refine blk_drewN ?_ _ | refine blk_drew ?_ | refine blk_alloc ?_ _)); refine blk_far ?_ NB221_227.out _; (with_reducible repeat (first | refine blk_drewN ?_ _ | refine blk_drew ?_ | refine blk_alloc ?_ _)); exact BK221.out⟩, ⟨by (with_reducible repeat (first | refine blk_drewN ?_ _ | refine blk_drew ?_ | refine blk_alloc ?_ _)); refine blk_put (cs := #[.int .u64 t232, .int .u64 x228001_8]) ?_ 1 _ rfl; (with_reducible repeat (first | refine blk_drewN ?_ _ | refine blk_drew ?_ | refine blk_alloc ?_ _)); refine blk_put (cs := #[.int .u64 x228000_8, .int .u64 x228001_8]) ?_ 0 _ rfl; (with_reducible repeat (first | refine blk_drewN ?_ _ | refine blk_drew ?_ | refine blk_alloc ?_ _)); exact BK227.out⟩, ⟨bw HB⟩⟩
    ·rw [if_neg c38] at H
     have c38b0 : decide (a1 < t231) = false := decide_eq_false c38
     clear c38
     (first | rw [c38b0] | (simp only [i64_w, i32_w]; rw [c38b0]) | skip)
     have H' := Aside0.mk H
     clear H
     go_wp2
     go_meet
     case rel => exact ⟨_, (wrap64 (a0_3 + ji6)), (x228000_8), (x228001_8), (by first | rfl | (simp; done) | (simp only [← hji6] <;> (first | rfl | simp)) | (simp [*]; done)), H', ⟨by have := HJ8.out; first | omega | exact Nat.le_refl _⟩, ⟨by (with_reducible repeat (first | refine blk_drewN ?_ _ | refine blk_drew ?_ | refine blk_alloc ?_ _)); exact BK220.out⟩, ⟨by (with_reducible repeat (first | refine blk_drewN ?_ _ | refine blk_drew ?_ | refine blk_alloc ?_ _)); exact BK221.out⟩, ⟨by (with_reducible repeat (first | refine blk_drewN ?_ _ | refine blk_drew ?_ | refine blk_alloc ?_ _)); exact BK227.out⟩, ⟨bw HB⟩⟩
   case rest =>
    clear HC31
    try clear c1
    try clear c2
    try clear p2
    try clear c3
    try clear c4
    try clear p6
    try clear c11
    try clear c13
    try clear c14
    try clear c15
    try clear c18
    try clear c19
    try clear c23
    try clear c25
    try clear c26
    try clear c32
    try clear c33
    try clear c35
    try clear c38
    try clear c38b0
    try clear c40
    try clear c41
    try clear hcz15_0
    try clear hcz15_1
    try clear hcz15_2
    try clear hcz15_3
    try clear hcz15_4
    try clear hcz20_0
    try clear hcz20_1
    try clear hcz21_0
    try clear hcz21_1
    try clear hcz21_2
    try clear hcz21_3
    try clear hcz21_4
    try clear hcz27_0
    try clear hcz27_1
    try clear hcz29_0
    try clear hcz29_1
    try clear hcz34_0
    try clear hcz34_1
    try clear hcz34_2
    try clear hcz34_3
    try clear hcz34_4
    try clear hcz36_0
    try clear hcz36_1
    try clear hcz42_0
    try clear hcz42_1
    try clear hcz44_0
    try clear hcz44_1
    try clear hfz15_0
    try clear hfz15_1
    try clear hfz15_2
    try clear hfz15_3
    try clear hfz15_4
    try clear hfz20_0
    try clear hfz20_1
    try clear hfz21_0
    try clear hfz21_1
    try clear hfz21_2
    try clear hfz21_3
    try clear hfz21_4
    try clear hfz27_0
    try clear hfz27_1
    try clear hfz29_0
    try clear hfz29_1
    try clear hfz34_0
    try clear hfz34_1
    try clear hfz34_2
    try clear hfz34_3
    try clear hfz34_4
    try clear hfz36_0
    try clear hfz36_1
    try clear hfz42_0
    try clear hfz42_1
    try clear hfz44_0
    try clear hfz44_1
    try clear p2
    try clear p6
    obtain ⟨kq, x12_30, x228000_30, x228001_30, rfl, HA, HJ30, BK220, BK221, BK227, HB⟩ := hcut
    cases kq with
    | zero => exact absurd HA.out (by simp [reals_exact_round.j1])
    | succ kj30 =>
     have H := HA.out
     clear HA
     simp only [reals_exact_round.j1] at H
     by_cases c45 : (x228000_30 == 0 && (x228001_30 == 0)) = true
     ·rw [if_pos c45] at H
      have c45b0 : (x228000_30 == 0 && (x228001_30 == 0)) = true := c45
      (try (have c45b1 : decide (x228000_30 = 0 && (x228001_30 == 0)) = true := by simpa using c45))
      (try (have c45b2 : (x228000_30 == 0 && (x228001_30 == 0)) = true := by simpa using c45))
      clear c45
      simp only [Option.some.injEq, Prod.mk.injEq] at H
      obtain ⟨rfl, rfl, rfl⟩ := H
      have hnb46 := NB227_220.out
      have hnc46 := NB220_227.out
      have hnb47 := NB227_221.out
      have hnc47 := NB221_227.out
      have hcz48_0 : wc.cell? ⟨gb227, 0, none⟩ = some (.int .u64 x228000_30) := (blk_cell BK227.out 0).trans rfl
      have hcz48_1 : wc.cell? ⟨gb227, 1, none⟩ = some (.int .u64 x228001_30) := (blk_cell BK227.out 1).trans rfl
      have hfz48_0 := blk_frozen BK227.out 0
      have hfz48_1 := blk_frozen BK227.out 1
      have hnb49 := NB221_220.out
      have hnc49 := NB220_221.out
      have hcz50_0 : wc.cell? ⟨gb221, 0, none⟩ = some (.int .i64 0) := (blk_cell BK221.out 0).trans rfl
      have hcz50_1 : wc.cell? ⟨gb221, 1, none⟩ = some (.int .i64 0) := (blk_cell BK221.out 1).trans rfl
      have hfz50_0 := blk_frozen BK221.out 0
      have hfz50_1 := blk_frozen BK221.out 1
      go_wp2
      refine bodyPost_ret (results_ct rfl _ _ gb221 23 #[.int .i64 0, .int .i64 0] (0, 0) _ rfl (by (with_reducible repeat (first | refine blk_drewN ?_ _ | refine blk_drew ?_ | refine blk_alloc ?_ _)); refine blk_put (cs := #[.int .i64 0, .int .i64 0]) ?_ 1 _ rfl; (with_reducible repeat (first | refine blk_drewN ?_ _ | refine blk_drew ?_ | refine blk_alloc ?_ _)); refine blk_put (cs := #[.int .i64 0, .int .i64 0]) ?_ 0 _ rfl; (with_reducible repeat (first | refine blk_drewN ?_ _ | refine blk_drew ?_ | refine blk_alloc ?_ _)); exact BK221.out) Tryz.underlying23 rfl (by kernel_rfl)) rfl ?_
      exact ⟨by first | rfl | (simp [errW_none, errW_some] <;> rfl) | (simp only [← hji5, ← hji6]; first | rfl | (simp [errW_none, errW_some] <;> rfl)) | (simp [*, errW_none, errW_some] <;> rfl), bw HB⟩
     ·rw [if_neg c45] at H
      have c45b0 : (x228000_30 == 0 && (x228001_30 == 0)) = false := by simpa using c45
      (try (have c45b1 : decide (x228000_30 = 0 && (x228001_30 == 0)) = false := by simpa using c45))
      (try (have c45b2 : (x228000_30 == 0 && (x228001_30 == 0)) = false := by simpa using c45))
      (try (have c45b3 : ¬ (x228000_30 = 0 && (x228001_30 == 0)) := by simpa using c45))
      clear c45
      replace H := Option.bind_eq_some_iff.mp H
      obtain ⟨t235, A510, H⟩ := H
      replace H : (if (wrap64 (t235 + (mx (wrap64 (x12_30 - 400)) 0))) > a1 then (if a2 = 0 then (reals_exact_round.j2 kj30 a1 true a0_0 a0_1 a0_2 a0_3 a0_4) else (if a2 = 1 then (if a0_0 = true then (if a2 = 2 then (reals_exact_round.j2 kj30 a1 a0_0 a0_0 a0_1 a0_2 a0_3 a0_4) else (reals_exact_round.j2 kj30 a1 false a0_0 a0_1 a0_2 a0_3 a0_4)) else (reals_exact_round.j2 kj30 a1 true a0_0 a0_1 a0_2 a0_3 a0_4)) else (if a2 = 2 then (reals_exact_round.j2 kj30 a1 a0_0 a0_0 a0_1 a0_2 a0_3 a0_4) else (reals_exact_round.j2 kj30 a1 false a0_0 a0_1 a0_2 a0_3 a0_4)))) else (reals_exact_round.j3 kj30 x12_30 a0_0 a0_1 a0_2 a0_3 a0_4 x228000_30 x228001_30)) = some (r1, r2, r3) := H
      have A51 := Aside0.mk A510
      clear A510
      obtain ⟨ji52, hji52⟩ : ∃ j_ : Int, (mx (wrap64 (x12_30 - 400)) 0) = j_ := ⟨_, rfl⟩
      replace H : (if (wrap64 (t235 + (ji52))) > a1 then (if a2 = 0 then (reals_exact_round.j2 kj30 a1 true a0_0 a0_1 a0_2 a0_3 a0_4) else (if a2 = 1 then (if a0_0 = true then (if a2 = 2 then (reals_exact_round.j2 kj30 a1 a0_0 a0_0 a0_1 a0_2 a0_3 a0_4) else (reals_exact_round.j2 kj30 a1 false a0_0 a0_1 a0_2 a0_3 a0_4)) else (reals_exact_round.j2 kj30 a1 true a0_0 a0_1 a0_2 a0_3 a0_4)) else (if a2 = 2 then (reals_exact_round.j2 kj30 a1 a0_0 a0_0 a0_1 a0_2 a0_3 a0_4) else (reals_exact_round.j2 kj30 a1 false a0_0 a0_1 a0_2 a0_3 a0_4)))) else (reals_exact_round.j3 kj30 x12_30 a0_0 a0_1 a0_2 a0_3 a0_4 x228000_30 x228001_30)) = some (r1, r2, r3) := by first | (rw [hji52] at H; exact H) | (simp only [hji52] at H ⊢; exact H)
      (try rw [hji52] at A51)
      have hji52_ : (if (wrap64 (x12_30 - 400)) < 0 then 0 else (wrap64 (x12_30 - 400))) = ji52 := hji52
      have HC53 := Aside0.mk H
      clear H
      have hnb54 := NB227_220.out
      have hnc54 := NB220_227.out
      have hnb55 := NB227_221.out
      have hnc55 := NB221_227.out
      have hcz56_0 : wc.cell? ⟨gb227, 0, none⟩ = some (.int .u64 x228000_30) := (blk_cell BK227.out 0).trans rfl
      have hcz56_1 : wc.cell? ⟨gb227, 1, none⟩ = some (.int .u64 x228001_30) := (blk_cell BK227.out 1).trans rfl
      have hfz56_0 := blk_frozen BK227.out 0
      have hfz56_1 := blk_frozen BK227.out 1
      go_upto_if 73 with (first | ((with_reducible refine gate_callee (f := 112) rfl ?_); refine goesL_ (some 67) rfl rfl Tryz.func112 (by kernel_rfl) rfl #[.agg #[.int .u64 x228000_30, .int .u64 x228001_30]] rfl (by (try simp only [List.map_toArray, List.map_cons, List.map_nil]); first | done | rfl | (simp only [List.length_drop, List.length_take]; rfl)) ?_; (with_reducible refine (reals_wide_digits.calls x228000_30 x228001_30 t235 _ A51.out).mono ?_); rintro e w57 ⟨rfl, hb⟩; refine ⟨_, rfl, ?_⟩; replace BK220 := Aside0.mk (bb BK220 hb); replace BK221 := Aside0.mk (bb BK221 hb); replace BK227 := Aside0.mk (bb BK227 hb); replace HB := Aside0.mk (below_step (bw HB) hb); (try clear hb); (try clear hb2); (try clear hk); (try clear hi)))
      (try simp only [sx])
      go_cut [12] (fun v12 wc => ∃ (kq : Nat) (x12_52 : Int) (x222000_52 : Int) (x222001_52 : Int) (x228000_52 : Int) (x228001_52 : Int), v12 = .int .i64 x12_52 ∧ Aside0 (reals_exact_round.j3 kq x12_52 a0_0 a0_1 a0_2 a0_3 a0_4 x228000_52 x228001_52 = some (r1, r2, r3)) ∧ Aside0 (kq ≤ kj30) ∧ Aside0 (wc.heap[gb220]? = some (.cells #[.bool a0_0, .int .u64 a0_1, .int .u64 a0_2, .int .i64 a0_3, .bool a0_4] 150 (0, 0))) ∧ Aside0 (wc.heap[gb221]? = some (.cells #[.int .i64 x222000_52, .int .i64 x222001_52] 23 (0, 0))) ∧ Aside0 (wc.heap[gb227]? = some (.cells #[.int .u64 x228000_52, .int .u64 x228001_52] 127 (0, 0))) ∧ Aside0 (Below w.heap.size w wc))
      case first =>
       have H := HC53.out
       clear HC53
       by_cases c58 : (wrap64 (t235 + (ji52))) > a1
       ·rw [if_pos c58] at H
        have c58b0 : decide (a1 < (wrap64 (t235 + (ji52)))) = true := decide_eq_true c58
        clear c58
        (first | rw [c58b0] | (simp only [i64_w, i32_w]; rw [c58b0]) | skip)
        have HC59 := Aside0.mk H
        clear H
        go_upto_region 12 with (fail)
        go_cut [92] (fun v92 wc => ∃ (kq : Nat) (x92_58 : Bool), v92 = .bool x92_58 ∧ Aside0 (reals_exact_round.j2 kq a1 x92_58 a0_0 a0_1 a0_2 a0_3 a0_4 = some (r1, r2, r3)) ∧ Aside0 (kq ≤ kj30) ∧ Aside0 (wc.heap[gb220]? = some (.cells #[.bool a0_0, .int .u64 a0_1, .int .u64 a0_2, .int .i64 a0_3, .bool a0_4] 150 (0, 0))) ∧ Aside0 (wc.heap[gb221]? = some (.cells #[.int .i64 0, .int .i64 0] 23 (0, 0))) ∧ Aside0 (wc.heap[gb227]? = some (.cells #[.int .u64 x228000_30, .int .u64 x228001_30] 127 (0, 0))) ∧ Aside0 (Below w.heap.size w wc))
        case first =>
         have H := HC59.out
         clear HC59
         by_cases c60 : a2 = 0
         ·rw [if_pos c60] at H
          have c60b0 : (a2 == 0) = true := beq_iff_eq.mpr c60
          have c60b1 : (a2 != 0) = false := bne_eq_false_iff_eq.mpr c60
          clear c60
          (first | rw [c60b0] | (simp only [i64_w, i32_w]; rw [c60b0]) | skip)
          have H' := Aside0.mk H
          clear H
          go_wp2
          go_meet
          case rel => exact ⟨_, (true), (by first | rfl | (simp; done) | (simp [*]; done)), H', ⟨by have := HJ8.out; have := HJ30.out; first | omega | exact Nat.le_refl _⟩, ⟨by (with_reducible repeat (first | refine blk_drewN ?_ _ | refine blk_drew ?_ | refine blk_alloc ?_ _)); exact BK220.out⟩, ⟨by (with_reducible repeat (first | refine blk_drewN ?_ _ | refine blk_drew ?_ | refine blk_alloc ?_ _)); exact BK221.out⟩, ⟨by (with_reducible repeat (first | refine blk_drewN ?_ _ | refine blk_drew ?_ | refine blk_alloc ?_ _)); exact BK227.out⟩, ⟨bw HB⟩⟩
         ·rw [if_neg c60] at H
          have c60b0 : (a2 == 0) = false := beq_eq_false_iff_ne.mpr c60
          have c60b1 : (a2 != 0) = true := bne_iff_ne.mpr c60
          (first | rw [c60b0] | (simp only [i64_w, i32_w]; rw [c60b0]) | skip)
          by_cases c61 : a2 = 1
          ·rw [if_pos c61] at H
           have c61b0 : (a2 == 1) = true := beq_iff_eq.mpr c61
           have c61b1 : (a2 != 1) = false := bne_eq_false_iff_eq.mpr c61
           clear c61
           by_cases c62 : a0_0 = true
           ·subst c62
            have H1 : (if a2 = 2 then (reals_exact_round.j2 kj30 a1 true true a0_1 a0_2 a0_3 a0_4) else (reals_exact_round.j2 kj30 a1 false true a0_1 a0_2 a0_3 a0_4)) = some (r1, r2, r3) := by rw [if_pos rfl] at H; exact H
            clear H
            have H := H1
            clear H1
            by_cases c63 : a2 = 2
            ·rw [if_pos c63] at H
             have c63b0 : (a2 == 2) = true := beq_iff_eq.mpr c63
             have c63b1 : (a2 != 2) = false := bne_eq_false_iff_eq.mpr c63
             clear c63
             have H' := Aside0.mk H
             clear H
             have hnb64 := NB220_221.out
             have hnc64 := NB221_220.out
             have hnb65 := NB220_227.out
             have hnc65 := NB227_220.out
             obtain ⟨hcz66_0, hcz66_1, hcz66_2, hcz66_3, hcz66_4, hfz66_0, hfz66_1, hfz66_2, hfz66_3, hfz66_4⟩ := cf5 BK220
             go_wp2
             go_meet
             case rel => exact ⟨_, (true), (by first | rfl | (simp; done) | (simp [*]; done)), H', ⟨by have := HJ8.out; have := HJ30.out; first | omega | exact Nat.le_refl _⟩, ⟨by (with_reducible repeat (first | refine blk_drewN ?_ _ | refine blk_drew ?_ | refine blk_alloc ?_ _)); exact BK220.out⟩, ⟨by (with_reducible repeat (first | refine blk_drewN ?_ _ | refine blk_drew ?_ | refine blk_alloc ?_ _)); exact BK221.out⟩, ⟨by (with_reducible repeat (first | refine blk_drewN ?_ _ | refine blk_drew ?_ | refine blk_alloc ?_ _)); exact BK227.out⟩, ⟨bw HB⟩⟩
            ·rw [if_neg c63] at H
             have c63b0 : (a2 == 2) = false := beq_eq_false_iff_ne.mpr c63
             have c63b1 : (a2 != 2) = true := bne_iff_ne.mpr c63
             have H' := Aside0.mk H
             clear H
             have hnb67 := NB220_221.out
             have hnc67 := NB221_220.out
             have hnb68 := NB220_227.out
             have hnc68 := NB227_220.out
             obtain ⟨hcz69_0, hcz69_1, hcz69_2, hcz69_3, hcz69_4, hfz69_0, hfz69_1, hfz69_2, hfz69_3, hfz69_4⟩ := cf5 BK220
             go_wp2
             go_meet
             case rel => exact ⟨_, (false), (by first | rfl | (simp; done) | (simp [*]; done)), H', ⟨by have := HJ8.out; have := HJ30.out; first | omega | exact Nat.le_refl _⟩, ⟨by (with_reducible repeat (first | refine blk_drewN ?_ _ | refine blk_drew ?_ | refine blk_alloc ?_ _)); exact BK220.out⟩, ⟨by (with_reducible repeat (first | refine blk_drewN ?_ _ | refine blk_drew ?_ | refine blk_alloc ?_ _)); exact BK221.out⟩, ⟨by (with_reducible repeat (first | refine blk_drewN ?_ _ | refine blk_drew ?_ | refine blk_alloc ?_ _)); exact BK227.out⟩, ⟨bw HB⟩⟩
           ·replace c62 := Bool.eq_false_iff.mpr c62
            subst c62
            have H1 : (reals_exact_round.j2 kj30 a1 true false a0_1 a0_2 a0_3 a0_4) = some (r1, r2, r3) := by rw [if_neg (show ¬ (false = true) by decide)] at H; exact H
            clear H
            have H := H1
            clear H1
            have H' := Aside0.mk H
            clear H
            have hnb70 := NB220_221.out
            have hnc70 := NB221_220.out
            have hnb71 := NB220_227.out
            have hnc71 := NB227_220.out
            obtain ⟨hcz72_0, hcz72_1, hcz72_2, hcz72_3, hcz72_4, hfz72_0, hfz72_1, hfz72_2, hfz72_3, hfz72_4⟩ := cf5 BK220
            go_wp2
            go_meet
            case rel => exact ⟨_, (true), (by first | rfl | (simp; done) | (simp [*]; done)), H', ⟨by have := HJ8.out; have := HJ30.out; first | omega | exact Nat.le_refl _⟩, ⟨by (with_reducible repeat (first | refine blk_drewN ?_ _ | refine blk_drew ?_ | refine blk_alloc ?_ _)); exact BK220.out⟩, ⟨by (with_reducible repeat (first | refine blk_drewN ?_ _ | refine blk_drew ?_ | refine blk_alloc ?_ _)); exact BK221.out⟩, ⟨by (with_reducible repeat (first | refine blk_drewN ?_ _ | refine blk_drew ?_ | refine blk_alloc ?_ _)); exact BK227.out⟩, ⟨bw HB⟩⟩
          ·rw [if_neg c61] at H
           have c61b0 : (a2 == 1) = false := beq_eq_false_iff_ne.mpr c61
           have c61b1 : (a2 != 1) = true := bne_iff_ne.mpr c61
           by_cases c73 : a2 = 2
           ·rw [if_pos c73] at H
            have c73b0 : (a2 == 2) = true := beq_iff_eq.mpr c73
            have c73b1 : (a2 != 2) = false := bne_eq_false_iff_eq.mpr c73
            clear c73
            have H' := Aside0.mk H
            clear H
            have hnb74 := NB220_221.out
            have hnc74 := NB221_220.out
            have hnb75 := NB220_227.out
            have hnc75 := NB227_220.out
            obtain ⟨hcz76_0, hcz76_1, hcz76_2, hcz76_3, hcz76_4, hfz76_0, hfz76_1, hfz76_2, hfz76_3, hfz76_4⟩ := cf5 BK220
            go_wp2
            go_meet
            case rel => exact ⟨_, (a0_0), (by first | rfl | (simp; done) | (simp [*]; done)), H', ⟨by have := HJ8.out; have := HJ30.out; first | omega | exact Nat.le_refl _⟩, ⟨by (with_reducible repeat (first | refine blk_drewN ?_ _ | refine blk_drew ?_ | refine blk_alloc ?_ _)); exact BK220.out⟩, ⟨by (with_reducible repeat (first | refine blk_drewN ?_ _ | refine blk_drew ?_ | refine blk_alloc ?_ _)); exact BK221.out⟩, ⟨by (with_reducible repeat (first | refine blk_drewN ?_ _ | refine blk_drew ?_ | refine blk_alloc ?_ _)); exact BK227.out⟩, ⟨bw HB⟩⟩
           ·rw [if_neg c73] at H
            have c73b0 : (a2 == 2) = false := beq_eq_false_iff_ne.mpr c73
            have c73b1 : (a2 != 2) = true := bne_iff_ne.mpr c73
            have H' := Aside0.mk H
            clear H
            go_wp2
            go_meet
            case rel => exact ⟨_, (false), (by first | rfl | (simp; done) | (simp [*]; done)), H', ⟨by have := HJ8.out; have := HJ30.out; first | omega | exact Nat.le_refl _⟩, ⟨by (with_reducible repeat (first | refine blk_drewN ?_ _ | refine blk_drew ?_ | refine blk_alloc ?_ _)); exact BK220.out⟩, ⟨by (with_reducible repeat (first | refine blk_drewN ?_ _ | refine blk_drew ?_ | refine blk_alloc ?_ _)); exact BK221.out⟩, ⟨by (with_reducible repeat (first | refine blk_drewN ?_ _ | refine blk_drew ?_ | refine blk_alloc ?_ _)); exact BK227.out⟩, ⟨bw HB⟩⟩
        case rest =>
         clear HC59
         try clear c1
         try clear c2
         try clear p2
         try clear c3
         try clear c4
         try clear c5
         try clear c6
         try clear p6
         try clear c7
         try clear c11
         try clear c13
         try clear c14
         try clear c15
         try clear c18
         try clear c19
         try clear c23
         try clear c25
         try clear c26
         try clear c32
         try clear c33
         try clear c35
         try clear c38
         try clear c38b0
         try clear c40
         try clear c41
         try clear c45
         try clear c45b0
         try clear c45b1
         try clear c45b2
         try clear c46
         try clear c47
         try clear c49
         try clear c54
         try clear c55
         try clear c58
         try clear c58b0
         try clear c60
         try clear c60b0
         try clear c60b1
         try clear c61
         try clear c61b0
         try clear c61b1
         try clear c62
         try clear c63
         try clear c63b0
         try clear c63b1
         try clear c64
         try clear p64
         try clear c65
         try clear c67
         try clear c68
         try clear c70
         try clear c71
         try clear c73
         try clear c73b0
         try clear c73b1
         try clear c74
         try clear c75
         try clear hcz15_0
         try clear hcz15_1
         try clear hcz15_2
         try clear hcz15_3
         try clear hcz15_4
         try clear hcz20_0
         try clear hcz20_1
         try clear hcz21_0
         try clear hcz21_1
         try clear hcz21_2
         try clear hcz21_3
         try clear hcz21_4
         try clear hcz27_0
         try clear hcz27_1
         try clear hcz29_0
         try clear hcz29_1
         try clear hcz34_0
         try clear hcz34_1
         try clear hcz34_2
         try clear hcz34_3
         try clear hcz34_4
         try clear hcz36_0
         try clear hcz36_1
         try clear hcz42_0
         try clear hcz42_1
         try clear hcz44_0
         try clear hcz44_1
         try clear hcz48_0
         try clear hcz48_1
         try clear hcz50_0
         try clear hcz50_1
         try clear hcz56_0
         try clear hcz56_1
         try clear hcz66_0
         try clear hcz66_1
         try clear hcz66_2
         try clear hcz66_3
         try clear hcz66_4
         try clear hcz69_0
         try clear hcz69_1
         try clear hcz69_2
         try clear hcz69_3
         try clear hcz69_4
         try clear hcz72_0
         try clear hcz72_1
         try clear hcz72_2
         try clear hcz72_3
         try clear hcz72_4
         try clear hcz76_0
         try clear hcz76_1
         try clear hcz76_2
         try clear hcz76_3
         try clear hcz76_4
         try clear hfz15_0
         try clear hfz15_1
         try clear hfz15_2
         try clear hfz15_3
         try clear hfz15_4
         try clear hfz20_0
         try clear hfz20_1
         try clear hfz21_0
         try clear hfz21_1
         try clear hfz21_2
         try clear hfz21_3
         try clear hfz21_4
         try clear hfz27_0
         try clear hfz27_1
         try clear hfz29_0
         try clear hfz29_1
         try clear hfz34_0
         try clear hfz34_1
         try clear hfz34_2
         try clear hfz34_3
         try clear hfz34_4
         try clear hfz36_0
         try clear hfz36_1
         try clear hfz42_0
         try clear hfz42_1
         try clear hfz44_0
         try clear hfz44_1
         try clear hfz48_0
         try clear hfz48_1
         try clear hfz50_0
         try clear hfz50_1
         try clear hfz56_0
         try clear hfz56_1
         try clear hfz66_0
         try clear hfz66_1
         try clear hfz66_2
         try clear hfz66_3
         try clear hfz66_4
         try clear hfz69_0
         try clear hfz69_1
         try clear hfz69_2
         try clear hfz69_3
         try clear hfz69_4
         try clear hfz72_0
         try clear hfz72_1
         try clear hfz72_2
         try clear hfz72_3
         try clear hfz72_4
         try clear hfz76_0
         try clear hfz76_1
         try clear hfz76_2
         try clear hfz76_3
         try clear hfz76_4
         try clear p2
         try clear p6
         obtain ⟨kq, x92_58, rfl, HA, HJ58, BK220, BK221, BK227, HB⟩ := hcut
         cases kq with
         | zero => exact absurd HA.out (by simp [reals_exact_round.j2])
         | succ kj58 =>
          have H := HA.out
          clear HA
          simp only [reals_exact_round.j2] at H
          by_cases c77 : x92_58 = true
          ·subst c77
           have H1 : (some (0, 0, 11)) = some (r1, r2, r3) := by rw [if_pos rfl] at H; exact H
           clear H
           have H := H1
           clear H1
           simp only [Option.some.injEq, Prod.mk.injEq] at H
           obtain ⟨rfl, rfl, rfl⟩ := H
           have hnb78 := NB221_220.out
           have hnc78 := NB220_221.out
           have hnb79 := NB221_227.out
           have hnc79 := NB227_221.out
           have hcz80_0 : wc.cell? ⟨gb221, 0, none⟩ = some (.int .i64 0) := (blk_cell BK221.out 0).trans rfl
           have hcz80_1 : wc.cell? ⟨gb221, 1, none⟩ = some (.int .i64 0) := (blk_cell BK221.out 1).trans rfl
           have hfz80_0 := blk_frozen BK221.out 0
           have hfz80_1 := blk_frozen BK221.out 1
           go_wp2
           refine bodyPost_ret (results_ct rfl _ _ gb221 23 #[.int .i64 0, .int .i64 0] (0, 0) _ rfl (by (with_reducible repeat (first | refine blk_drewN ?_ _ | refine blk_drew ?_ | refine blk_alloc ?_ _)); refine blk_put (cs := #[.int .i64 0, .int .i64 0]) ?_ 1 _ rfl; (with_reducible repeat (first | refine blk_drewN ?_ _ | refine blk_drew ?_ | refine blk_alloc ?_ _)); refine blk_put (cs := #[.int .i64 0, .int .i64 0]) ?_ 0 _ rfl; (with_reducible repeat (first | refine blk_drewN ?_ _ | refine blk_drew ?_ | refine blk_alloc ?_ _)); exact BK221.out) Tryz.underlying23 rfl (by kernel_rfl)) rfl ?_
           exact ⟨by first | rfl | (simp [errW_none, errW_some] <;> rfl) | (simp only [← hji5, ← hji6, ← hji52]; first | rfl | (simp [errW_none, errW_some] <;> rfl)) | (simp [*, errW_none, errW_some] <;> rfl), bw HB⟩
          ·replace c77 := Bool.eq_false_iff.mpr c77
           subst c77
           have H1 : ((reals_power.f kj58 a1).bind fun bt236 => ((reals_wide_minus.f bt236.1 bt236.2 0 1).bind fun bt238 => (reals_exact_round.j3 kj58 400 a0_0 a0_1 a0_2 a0_3 a0_4 bt238.1 bt238.2))) = some (r1, r2, r3) := by rw [if_neg (show ¬ (false = true) by decide)] at H; exact H
           clear H
           have H := H1
           clear H1
           replace H := Option.bind_eq_some_iff.mp H
           obtain ⟨⟨t236, t237⟩, A810, H⟩ := H
           replace H : ((reals_wide_minus.f t236 t237 0 1).bind fun bt238 => (reals_exact_round.j3 kj58 400 a0_0 a0_1 a0_2 a0_3 a0_4 bt238.1 bt238.2)) = some (r1, r2, r3) := H
           have A81 := Aside0.mk A810
           clear A810
           replace H := Option.bind_eq_some_iff.mp H
           obtain ⟨⟨t238, t239⟩, A820, H⟩ := H
           replace H : (reals_exact_round.j3 kj58 400 a0_0 a0_1 a0_2 a0_3 a0_4 t238 t239) = some (r1, r2, r3) := H
           have A82 := Aside0.mk A820
           clear A820
           have H' := Aside0.mk H
           clear H
           go_wp2_with (first | ((with_reducible refine gate_callee (f := 158) rfl ?_); refine goesL_ (some 95) rfl rfl Tryz.func158 (by kernel_rfl) rfl #[.int .i64 a1] rfl (by (try simp only [List.map_toArray, List.map_cons, List.map_nil]); first | done | rfl | (simp only [List.length_drop, List.length_take]; rfl)) ?_; (with_reducible refine (reals_power.calls kj58 a1 t236 t237 _ A81.out).mono ?_); rintro e w83 ⟨rfl, hb⟩; refine ⟨_, rfl, ?_⟩; replace BK220 := Aside0.mk (bb BK220 hb); replace BK221 := Aside0.mk (bb BK221 hb); replace BK227 := Aside0.mk (bb BK227 hb); replace HB := Aside0.mk (below_step (bw HB) hb); (try clear hb); (try clear hb2); (try clear hk); (try clear hi)) | ((with_reducible refine gate_callee (f := 159) rfl ?_); refine goesL_ (some 97) rfl rfl Tryz.func159 (by kernel_rfl) rfl #[.agg #[.int .u64 t236, .int .u64 t237], .agg #[.int .u64 0, .int .u64 1]] rfl (by (try simp only [List.map_toArray, List.map_cons, List.map_nil]); first | done | rfl | (simp only [List.length_drop, List.length_take]; rfl)) ?_; (with_reducible refine (reals_wide_minus.calls t236 t237 0 1 t238 t239 _ A82.out).mono ?_); rintro e w84 ⟨rfl, hb⟩; refine ⟨_, rfl, ?_⟩; replace BK220 := Aside0.mk (bb BK220 hb); replace BK221 := Aside0.mk (bb BK221 hb); replace BK227 := Aside0.mk (bb BK227 hb); replace HB := Aside0.mk (below_step (bw HB) hb); (try clear hb); (try clear hb2); (try clear hk); (try clear hi); have hnb85 := NB227_220.out; have hnc85 := NB220_227.out; have hnb86 := NB227_221.out; have hnc86 := NB221_227.out; obtain ⟨hcz87_0, hcz87_1, hfz87_0, hfz87_1⟩ := cf2 BK227))
           go_meet
           case rel => exact ⟨_, (400), (0), (0), (t238), (t239), (by first | rfl | (simp; done) | (simp [*]; done)), H', ⟨by have := HJ8.out; have := HJ30.out; have := HJ58.out; first | omega | exact Nat.le_refl _⟩, ⟨by (with_reducible repeat (first | refine blk_drewN ?_ _ | refine blk_drew ?_ | refine blk_alloc ?_ _)); refine blk_far ?_ NB220_227.out _; (with_reducible repeat (first | refine blk_drewN ?_ _ | refine blk_drew ?_ | refine blk_alloc ?_ _)); refine blk_far ?_ NB220_227.out _; (with_reducible repeat (first | refine blk_drewN ?_ _ | refine blk_drew ?_ | refine blk_alloc ?_ _)); exact BK220.out⟩, ⟨by (with_reducible repeat (first | refine blk_drewN ?_ _ | refine blk_drew ?_ | refine blk_alloc ?_ _)); refine blk_far ?_ NB221_227.out _; (with_reducible repeat (first | refine blk_drewN ?_ _ | refine blk_drew ?_ | refine blk_alloc ?_ _)); refine blk_far ?_ NB221_227.out _; (with_reducible repeat (first | refine blk_drewN ?_ _ | refine blk_drew ?_ | refine blk_alloc ?_ _)); exact BK221.out⟩, ⟨by (with_reducible repeat (first | refine blk_drewN ?_ _ | refine blk_drew ?_ | refine blk_alloc ?_ _)); refine blk_put (cs := #[.int .u64 t238, .int .u64 x228001_30]) ?_ 1 _ rfl; (with_reducible repeat (first | refine blk_drewN ?_ _ | refine blk_drew ?_ | refine blk_alloc ?_ _)); refine blk_put (cs := #[.int .u64 x228000_30, .int .u64 x228001_30]) ?_ 0 _ rfl; (with_reducible repeat (first | refine blk_drewN ?_ _ | refine blk_drew ?_ | refine blk_alloc ?_ _)); exact BK227.out⟩, ⟨bw HB⟩⟩
       ·rw [if_neg c58] at H
        have c58b0 : decide (a1 < (wrap64 (t235 + (ji52)))) = false := decide_eq_false c58
        clear c58
        (first | rw [c58b0] | (simp only [i64_w, i32_w]; rw [c58b0]) | skip)
        have H' := Aside0.mk H
        clear H
        go_wp2
        go_meet
        case rel => exact ⟨_, (x12_30), (0), (0), (x228000_30), (x228001_30), (by first | rfl | (simp; done) | (simp [*]; done)), H', ⟨by have := HJ8.out; have := HJ30.out; first | omega | exact Nat.le_refl _⟩, ⟨by (with_reducible repeat (first | refine blk_drewN ?_ _ | refine blk_drew ?_ | refine blk_alloc ?_ _)); exact BK220.out⟩, ⟨by (with_reducible repeat (first | refine blk_drewN ?_ _ | refine blk_drew ?_ | refine blk_alloc ?_ _)); exact BK221.out⟩, ⟨by (with_reducible repeat (first | refine blk_drewN ?_ _ | refine blk_drew ?_ | refine blk_alloc ?_ _)); exact BK227.out⟩, ⟨bw HB⟩⟩
      case rest =>
       clear HC53
       try clear c1
       try clear c2
       try clear p2
       try clear c3
       try clear c4
       try clear c5
       try clear c6
       try clear p6
       try clear c7
       try clear c8
       try clear c11
       try clear c13
       try clear c14
       try clear c15
       try clear c18
       try clear c19
       try clear c23
       try clear c25
       try clear c26
       try clear c32
       try clear c33
       try clear c35
       try clear c38
       try clear c38b0
       try clear c40
       try clear c41
       try clear c45
       try clear c45b0
       try clear c45b1
       try clear c45b2
       try clear c46
       try clear c47
       try clear c49
       try clear c54
       try clear c55
       try clear c58
       try clear c58b0
       try clear c60
       try clear c60b0
       try clear c60b1
       try clear c61
       try clear c61b0
       try clear c61b1
       try clear c62
       try clear c63
       try clear c63b0
       try clear c63b1
       try clear c64
       try clear p64
       try clear c65
       try clear c67
       try clear c68
       try clear c70
       try clear c71
       try clear c73
       try clear c73b0
       try clear c73b1
       try clear c74
       try clear c75
       try clear c77
       try clear c78
       try clear c79
       try clear c85
       try clear c86
       try clear hcz15_0
       try clear hcz15_1
       try clear hcz15_2
       try clear hcz15_3
       try clear hcz15_4
       try clear hcz20_0
       try clear hcz20_1
       try clear hcz21_0
       try clear hcz21_1
       try clear hcz21_2
       try clear hcz21_3
       try clear hcz21_4
       try clear hcz27_0
       try clear hcz27_1
       try clear hcz29_0
       try clear hcz29_1
       try clear hcz34_0
       try clear hcz34_1
       try clear hcz34_2
       try clear hcz34_3
       try clear hcz34_4
       try clear hcz36_0
       try clear hcz36_1
       try clear hcz42_0
       try clear hcz42_1
       try clear hcz44_0
       try clear hcz44_1
       try clear hcz48_0
       try clear hcz48_1
       try clear hcz50_0
       try clear hcz50_1
       try clear hcz56_0
       try clear hcz56_1
       try clear hcz66_0
       try clear hcz66_1
       try clear hcz66_2
       try clear hcz66_3
       try clear hcz66_4
       try clear hcz69_0
       try clear hcz69_1
       try clear hcz69_2
       try clear hcz69_3
       try clear hcz69_4
       try clear hcz72_0
       try clear hcz72_1
       try clear hcz72_2
       try clear hcz72_3
       try clear hcz72_4
       try clear hcz76_0
       try clear hcz76_1
       try clear hcz76_2
       try clear hcz76_3
       try clear hcz76_4
       try clear hcz80_0
       try clear hcz80_1
       try clear hcz87_0
       try clear hcz87_1
       try clear hfz15_0
       try clear hfz15_1
       try clear hfz15_2
       try clear hfz15_3
       try clear hfz15_4
       try clear hfz20_0
       try clear hfz20_1
       try clear hfz21_0
       try clear hfz21_1
       try clear hfz21_2
       try clear hfz21_3
       try clear hfz21_4
       try clear hfz27_0
       try clear hfz27_1
       try clear hfz29_0
       try clear hfz29_1
       try clear hfz34_0
       try clear hfz34_1
       try clear hfz34_2
       try clear hfz34_3
       try clear hfz34_4
       try clear hfz36_0
       try clear hfz36_1
       try clear hfz42_0
       try clear hfz42_1
       try clear hfz44_0
       try clear hfz44_1
       try clear hfz48_0
       try clear hfz48_1
       try clear hfz50_0
       try clear hfz50_1
       try clear hfz56_0
       try clear hfz56_1
       try clear hfz66_0
       try clear hfz66_1
       try clear hfz66_2
       try clear hfz66_3
       try clear hfz66_4
       try clear hfz69_0
       try clear hfz69_1
       try clear hfz69_2
       try clear hfz69_3
       try clear hfz69_4
       try clear hfz72_0
       try clear hfz72_1
       try clear hfz72_2
       try clear hfz72_3
       try clear hfz72_4
       try clear hfz76_0
       try clear hfz76_1
       try clear hfz76_2
       try clear hfz76_3
       try clear hfz76_4
       try clear hfz80_0
       try clear hfz80_1
       try clear hfz87_0
       try clear hfz87_1
       try clear p2
       try clear p6
       try clear p64
       obtain ⟨kq, x12_52, x222000_52, x222001_52, x228000_52, x228001_52, rfl, HA, HJ52, BK220, BK221, BK227, HB⟩ := hcut
       cases kq with
       | zero => exact absurd HA.out (by simp [reals_exact_round.j3])
       | succ kj52 =>
        have H := HA.out
        clear HA
        simp only [reals_exact_round.j3] at H
        have H' := Aside0.mk H
        clear H
        go_wp2
        go_loopg [12] kj52 (fun kq v12 w' => ∃ (x12_4 : Int) (x228000_4 : Int) (x228001_4 : Int), v12 = .int .i64 x12_4 ∧ Aside0 (reals_exact_round.l0 kq x12_4 a0_0 a0_1 a0_2 a0_3 a0_4 x228000_4 x228001_4 = some (r1, r2, r3)) ∧ Aside0 (kq ≤ kj52) ∧ Aside0 (w'.heap[gb220]? = some (.cells #[.bool a0_0, .int .u64 a0_1, .int .u64 a0_2, .int .i64 a0_3, .bool a0_4] 150 (0, 0))) ∧ Aside0 (w'.heap[gb221]? = some (.cells #[.int .i64 x222000_52, .int .i64 x222001_52] 23 (0, 0))) ∧ Aside0 (w'.heap[gb227]? = some (.cells #[.int .u64 x228000_4, .int .u64 x228001_4] 127 (0, 0))) ∧ Aside0 (Below w.heap.size w w'))
        case atStart => exact ⟨(x12_52), (x228000_52), (x228001_52), (by first | rfl | (simp; done) | (simp [*]; done)), H', ⟨Nat.le_refl _⟩, ⟨by (with_reducible repeat (first | refine blk_drewN ?_ _ | refine blk_drew ?_ | refine blk_alloc ?_ _)); exact BK220.out⟩, ⟨by (with_reducible repeat (first | refine blk_drewN ?_ _ | refine blk_drew ?_ | refine blk_alloc ?_ _)); exact BK221.out⟩, ⟨by (with_reducible repeat (first | refine blk_drewN ?_ _ | refine blk_drew ?_ | refine blk_alloc ?_ _)); exact BK227.out⟩, ⟨bw HB⟩⟩
        case round =>
         clear H'
         try clear c1
         try clear c2
         try clear p2
         try clear c3
         try clear c4
         try clear c5
         try clear c6
         try clear p6
         try clear c7
         try clear c8
         try clear c11
         try clear c13
         try clear c14
         try clear c15
         try clear c18
         try clear c19
         try clear c23
         try clear c25
         try clear c26
         try clear c32
         try clear c33
         try clear c35
         try clear c38
         try clear c38b0
         try clear c40
         try clear c41
         try clear c45
         try clear c45b0
         try clear c45b1
         try clear c45b2
         try clear c46
         try clear c47
         try clear c49
         try clear c54
         try clear c55
         try clear c58
         try clear c58b0
         try clear c60
         try clear c60b0
         try clear c60b1
         try clear c61
         try clear c61b0
         try clear c61b1
         try clear c62
         try clear c63
         try clear c63b0
         try clear c63b1
         try clear c64
         try clear p64
         try clear c65
         try clear c67
         try clear c68
         try clear c70
         try clear c71
         try clear c73
         try clear c73b0
         try clear c73b1
         try clear c74
         try clear c75
         try clear c77
         try clear c78
         try clear c79
         try clear c85
         try clear c86
         try clear hcz15_0
         try clear hcz15_1
         try clear hcz15_2
         try clear hcz15_3
         try clear hcz15_4
         try clear hcz20_0
         try clear hcz20_1
         try clear hcz21_0
         try clear hcz21_1
         try clear hcz21_2
         try clear hcz21_3
         try clear hcz21_4
         try clear hcz27_0
         try clear hcz27_1
         try clear hcz29_0
         try clear hcz29_1
         try clear hcz34_0
         try clear hcz34_1
         try clear hcz34_2
         try clear hcz34_3
         try clear hcz34_4
         try clear hcz36_0
         try clear hcz36_1
         try clear hcz42_0
         try clear hcz42_1
         try clear hcz44_0
         try clear hcz44_1
         try clear hcz48_0
         try clear hcz48_1
         try clear hcz50_0
         try clear hcz50_1
         try clear hcz56_0
         try clear hcz56_1
         try clear hcz66_0
         try clear hcz66_1
         try clear hcz66_2
         try clear hcz66_3
         try clear hcz66_4
         try clear hcz69_0
         try clear hcz69_1
         try clear hcz69_2
         try clear hcz69_3
         try clear hcz69_4
         try clear hcz72_0
         try clear hcz72_1
         try clear hcz72_2
         try clear hcz72_3
         try clear hcz72_4
         try clear hcz76_0
         try clear hcz76_1
         try clear hcz76_2
         try clear hcz76_3
         try clear hcz76_4
         try clear hcz80_0
         try clear hcz80_1
         try clear hcz87_0
         try clear hcz87_1
         try clear hfz15_0
         try clear hfz15_1
         try clear hfz15_2
         try clear hfz15_3
         try clear hfz15_4
         try clear hfz20_0
         try clear hfz20_1
         try clear hfz21_0
         try clear hfz21_1
         try clear hfz21_2
         try clear hfz21_3
         try clear hfz21_4
         try clear hfz27_0
         try clear hfz27_1
         try clear hfz29_0
         try clear hfz29_1
         try clear hfz34_0
         try clear hfz34_1
         try clear hfz34_2
         try clear hfz34_3
         try clear hfz34_4
         try clear hfz36_0
         try clear hfz36_1
         try clear hfz42_0
         try clear hfz42_1
         try clear hfz44_0
         try clear hfz44_1
         try clear hfz48_0
         try clear hfz48_1
         try clear hfz50_0
         try clear hfz50_1
         try clear hfz56_0
         try clear hfz56_1
         try clear hfz66_0
         try clear hfz66_1
         try clear hfz66_2
         try clear hfz66_3
         try clear hfz66_4
         try clear hfz69_0
         try clear hfz69_1
         try clear hfz69_2
         try clear hfz69_3
         try clear hfz69_4
         try clear hfz72_0
         try clear hfz72_1
         try clear hfz72_2
         try clear hfz72_3
         try clear hfz72_4
         try clear hfz76_0
         try clear hfz76_1
         try clear hfz76_2
         try clear hfz76_3
         try clear hfz76_4
         try clear hfz80_0
         try clear hfz80_1
         try clear hfz87_0
         try clear hfz87_1
         try clear p2
         try clear p6
         try clear p64
         obtain ⟨x12_4, x228000_4, x228001_4, rfl, HA, HK4, BK220, BK221, BK227, HB⟩ := hrel
         cases gk with
         | zero => exact absurd HA.out (by simp [reals_exact_round.l0])
         | succ k4 =>
          have H := HA.out
          clear HA
          simp only [reals_exact_round.l0] at H
          replace H := Option.bind_eq_some_iff.mp H
          obtain ⟨⟨t240, t241, t242⟩, A880, H⟩ := H
          replace H : (if t242 = 0 then (reals_exact_round.l0 k4 (wrap64 (x12_4 + 1)) a0_0 a0_1 a0_2 a0_3 a0_4 t240 t241) else (if a0_0 = true then (some (wrap64 (-(wrap64 (x228001_4))), x12_4, 0)) else (some (wrap64 (x228001_4), x12_4, 0)))) = some (r1, r2, r3) := H
          have A88 := Aside0.mk A880
          clear A880
          by_cases c89 : t242 = 0
          ·rw [if_pos c89] at H
           have c89b0 : (t242 == 0) = true := beq_iff_eq.mpr c89
           have c89b1 : (t242 != 0) = false := bne_eq_false_iff_eq.mpr c89
           clear c89
           have H' := Aside0.mk H
           clear H
           have hnb90 := NB227_220.out
           have hnc90 := NB220_227.out
           have hnb91 := NB227_221.out
           have hnc91 := NB221_227.out
           have hcz92_0 : wr.cell? ⟨gb227, 0, none⟩ = some (.int .u64 x228000_4) := (blk_cell BK227.out 0).trans rfl
           have hcz92_1 : wr.cell? ⟨gb227, 1, none⟩ = some (.int .u64 x228001_4) := (blk_cell BK227.out 1).trans rfl
           have hfz92_0 := blk_frozen BK227.out 0
           have hfz92_1 := blk_frozen BK227.out 1
           go_wp2_with (first | ((with_reducible refine gate_callee (f := 157) rfl ?_); refine goesL_ (some 100) rfl rfl Tryz.func157 (by kernel_rfl) rfl #[.agg #[.int .u64 x228000_4, .int .u64 x228001_4], .int .u64 10] rfl (by (try simp only [List.map_toArray, List.map_cons, List.map_nil]); first | done | rfl | (simp only [List.length_drop, List.length_take]; rfl)) ?_; (with_reducible refine (reals_wide_over.calls k4 x228000_4 x228001_4 10 t240 t241 t242 _ A88.out).mono ?_); rintro e w93 ⟨rfl, hb⟩; refine ⟨_, rfl, ?_⟩; replace BK220 := Aside0.mk (bb BK220 hb); replace BK221 := Aside0.mk (bb BK221 hb); replace BK227 := Aside0.mk (bb BK227 hb); replace HB := Aside0.mk (below_step (bw HB) hb); (try clear hb); (try clear hb2); (try clear hk); (try clear hi)) | ((with_reducible refine gate_dst (N := 13) rfl ?_); refine box_event ?hg (N := 13) ?hd (cs := #[.int .u64 0, .int .u64 0]) (t := 127) ?hr ?_; (case hd => rfl); (case hg => rfl); (case hr => first | (go_simp; done) | (go_simp; rfl)); intro gb243 hg w94 hbox hb; have BK243 := Aside0.mk (hbox); have GW243 := Aside0.mk (bs HB hg : w.heap.size ≤ gb243); replace HB := Aside0.mk (below_step (bw HB) hb); have NB220_243 := Aside0.mk (nl BK220 hg); have NB243_220 := Aside0.mk (ng BK220 hg); replace BK220 := Aside0.mk (bb BK220 hb); have NB221_243 := Aside0.mk (nl BK221 hg); have NB243_221 := Aside0.mk (ng BK221 hg); replace BK221 := Aside0.mk (bb BK221 hb); have NB227_243 := Aside0.mk (nl BK227 hg); have NB243_227 := Aside0.mk (ng BK227 hg); replace BK227 := Aside0.mk (bb BK227 hb); clear hb hbox hg; have hnb95 := NB243_220.out; have hnc95 := NB220_243.out; have hnb96 := NB243_221.out; have hnc96 := NB221_243.out; have hnb97 := NB243_227.out; have hnc97 := NB227_243.out; obtain ⟨hcz98_0, hcz98_1, hfz98_0, hfz98_1⟩ := cf2 BK243; obtain ⟨hcz99_0, hcz99_1, hfz99_0, hfz99_1⟩ := cf2 BK227))
           go_roundg k4
           case measure => have := HJ8.out; have := HJ30.out; have := HJ52.out; have := HK4.out; omega
           case rel => exact ⟨(wrap64 (x12_4 + 1)), (t240), (t241), (by first | rfl | (simp; done) | (simp [*]; done)), H', ⟨by have := HJ8.out; have := HJ30.out; have := HJ52.out; have := HK4.out; omega⟩, ⟨by (with_reducible repeat (first | refine blk_drewN ?_ _ | refine blk_drew ?_ | refine blk_alloc ?_ _)); refine blk_far ?_ NB220_227.out _; (with_reducible repeat (first | refine blk_drewN ?_ _ | refine blk_drew ?_ | refine blk_alloc ?_ _)); refine blk_far ?_ NB220_227.out _; (with_reducible repeat (first | refine blk_drewN ?_ _ | refine blk_drew ?_ | refine blk_alloc ?_ _)); refine blk_far ?_ NB220_243.out _; (with_reducible repeat (first | refine blk_drewN ?_ _ | refine blk_drew ?_ | refine blk_alloc ?_ _)); refine blk_far ?_ NB220_243.out _; (with_reducible repeat (first | refine blk_drewN ?_ _ | refine blk_drew ?_ | refine blk_alloc ?_ _)); exact BK220.out⟩, ⟨by (with_reducible repeat (first | refine blk_drewN ?_ _ | refine blk_drew ?_ | refine blk_alloc ?_ _)); refine blk_far ?_ NB221_227.out _; (with_reducible repeat (first | refine blk_drewN ?_ _ | refine blk_drew ?_ | refine blk_alloc ?_ _)); refine blk_far ?_ NB221_227.out _; (with_reducible repeat (first | refine blk_drewN ?_ _ | refine blk_drew ?_ | refine blk_alloc ?_ _)); refine blk_far ?_ NB221_243.out _; (with_reducible repeat (first | refine blk_drewN ?_ _ | refine blk_drew ?_ | refine blk_alloc ?_ _)); refine blk_far ?_ NB221_243.out _; (with_reducible repeat (first | refine blk_drewN ?_ _ | refine blk_drew ?_ | refine blk_alloc ?_ _)); exact BK221.out⟩, ⟨by (with_reducible repeat (first | refine blk_drewN ?_ _ | refine blk_drew ?_ | refine blk_alloc ?_ _)); refine blk_put (cs := #[.int .u64 t240, .int .u64 x228001_4]) ?_ 1 _ rfl; (with_reducible repeat (first | refine blk_drewN ?_ _ | refine blk_drew ?_ | refine blk_alloc ?_ _)); refine blk_put (cs := #[.int .u64 x228000_4, .int .u64 x228001_4]) ?_ 0 _ rfl; (with_reducible repeat (first | refine blk_drewN ?_ _ | refine blk_drew ?_ | refine blk_alloc ?_ _)); refine blk_far ?_ NB227_243.out _; (with_reducible repeat (first | refine blk_drewN ?_ _ | refine blk_drew ?_ | refine blk_alloc ?_ _)); refine blk_far ?_ NB227_243.out _; (with_reducible repeat (first | refine blk_drewN ?_ _ | refine blk_drew ?_ | refine blk_alloc ?_ _)); exact BK227.out⟩, ⟨bw HB⟩⟩
          ·rw [if_neg c89] at H
           have c89b0 : (t242 == 0) = false := beq_eq_false_iff_ne.mpr c89
           have c89b1 : (t242 != 0) = true := bne_iff_ne.mpr c89
           by_cases c100 : a0_0 = true
           ·subst c100
            have H1 : (some (wrap64 (-(wrap64 (x228001_4))), x12_4, 0)) = some (r1, r2, r3) := by rw [if_pos rfl] at H; exact H
            clear H
            have H := H1
            clear H1
            simp only [Option.some.injEq, Prod.mk.injEq] at H
            obtain ⟨rfl, rfl, rfl⟩ := H
            have hnb101 := NB227_220.out
            have hnc101 := NB220_227.out
            have hnb102 := NB227_221.out
            have hnc102 := NB221_227.out
            have hcz103_0 : wr.cell? ⟨gb227, 0, none⟩ = some (.int .u64 x228000_4) := (blk_cell BK227.out 0).trans rfl
            have hcz103_1 : wr.cell? ⟨gb227, 1, none⟩ = some (.int .u64 x228001_4) := (blk_cell BK227.out 1).trans rfl
            have hfz103_0 := blk_frozen BK227.out 0
            have hfz103_1 := blk_frozen BK227.out 1
            go_wp2_with (first | ((with_reducible refine gate_callee (f := 157) rfl ?_); refine goesL_ (some 100) rfl rfl Tryz.func157 (by kernel_rfl) rfl #[.agg #[.int .u64 x228000_4, .int .u64 x228001_4], .int .u64 10] rfl (by (try simp only [List.map_toArray, List.map_cons, List.map_nil]); first | done | rfl | (simp only [List.length_drop, List.length_take]; rfl)) ?_; (with_reducible refine (reals_wide_over.calls k4 x228000_4 x228001_4 10 t240 t241 t242 _ A88.out).mono ?_); rintro e w104 ⟨rfl, hb⟩; refine ⟨_, rfl, ?_⟩; replace BK220 := Aside0.mk (bb BK220 hb); replace BK221 := Aside0.mk (bb BK221 hb); replace BK227 := Aside0.mk (bb BK227 hb); replace HB := Aside0.mk (below_step (bw HB) hb); (try clear hb); (try clear hb2); (try clear hk); (try clear hi)) | ((with_reducible refine gate_dst (N := 13) rfl ?_); refine box_event ?hg (N := 13) ?hd (cs := #[.int .u64 0, .int .u64 0]) (t := 127) ?hr ?_; (case hd => rfl); (case hg => rfl); (case hr => first | (go_simp; done) | (go_simp; rfl)); intro gb243 hg w105 hbox hb; have BK243 := Aside0.mk (hbox); have GW243 := Aside0.mk (bs HB hg : w.heap.size ≤ gb243); replace HB := Aside0.mk (below_step (bw HB) hb); have NB220_243 := Aside0.mk (nl BK220 hg); have NB243_220 := Aside0.mk (ng BK220 hg); replace BK220 := Aside0.mk (bb BK220 hb); have NB221_243 := Aside0.mk (nl BK221 hg); have NB243_221 := Aside0.mk (ng BK221 hg); replace BK221 := Aside0.mk (bb BK221 hb); have NB227_243 := Aside0.mk (nl BK227 hg); have NB243_227 := Aside0.mk (ng BK227 hg); replace BK227 := Aside0.mk (bb BK227 hb); clear hb hbox hg; have hnb106 := NB243_220.out; have hnc106 := NB220_243.out; have hnb107 := NB243_221.out; have hnc107 := NB221_243.out; have hnb108 := NB243_227.out; have hnc108 := NB227_243.out; obtain ⟨hcz109_0, hcz109_1, hfz109_0, hfz109_1⟩ := cf2 BK243; obtain ⟨hcz110_0, hcz110_1, hfz110_0, hfz110_1⟩ := cf2 BK227; have hnb111 := NB220_221.out; have hnc111 := NB221_220.out; obtain ⟨hcz112_0, hcz112_1, hcz112_2, hcz112_3, hcz112_4, hfz112_0, hfz112_1, hfz112_2, hfz112_3, hfz112_4⟩ := cf5 BK220; obtain ⟨hcz113_0, hcz113_1, hfz113_0, hfz113_1⟩ := cf2 BK221))
            refine bodyPost_ret (results_ct rfl _ _ gb221 23 #[.int .i64 (wrap64 (-(wrap64 (x228001_4)))), .int .i64 x12_4] (0, 0) _ rfl (by (with_reducible repeat (first | refine blk_drewN ?_ _ | refine blk_drew ?_ | refine blk_alloc ?_ _)); refine blk_put (cs := #[.int .i64 (wrap64 (-(wrap64 (x228001_4)))), .int .i64 x222001_52]) ?_ 1 _ rfl; (with_reducible repeat (first | refine blk_drewN ?_ _ | refine blk_drew ?_ | refine blk_alloc ?_ _)); refine blk_put (cs := #[.int .i64 x222000_52, .int .i64 x222001_52]) ?_ 0 _ rfl; (with_reducible repeat (first | refine blk_drewN ?_ _ | refine blk_drew ?_ | refine blk_alloc ?_ _)); refine blk_far ?_ NB221_243.out _; (with_reducible repeat (first | refine blk_drewN ?_ _ | refine blk_drew ?_ | refine blk_alloc ?_ _)); refine blk_far ?_ NB221_243.out _; (with_reducible repeat (first | refine blk_drewN ?_ _ | refine blk_drew ?_ | refine blk_alloc ?_ _)); exact BK221.out) Tryz.underlying23 rfl (by kernel_rfl)) rfl ?_
            exact ⟨by first | rfl | (simp [errW_none, errW_some] <;> rfl) | (simp only [← hji5, ← hji6, ← hji52]; first | rfl | (simp [errW_none, errW_some] <;> rfl)) | (simp [*, errW_none, errW_some] <;> rfl), bw HB⟩
           ·replace c100 := Bool.eq_false_iff.mpr c100
            subst c100
            have H1 : (some (wrap64 (x228001_4), x12_4, 0)) = some (r1, r2, r3) := by rw [if_neg (show ¬ (false = true) by decide)] at H; exact H
            clear H
            have H := H1
            clear H1
            simp only [Option.some.injEq, Prod.mk.injEq] at H
            obtain ⟨rfl, rfl, rfl⟩ := H
            have hnb114 := NB227_220.out
            have hnc114 := NB220_227.out
            have hnb115 := NB227_221.out
            have hnc115 := NB221_227.out
            have hcz116_0 : wr.cell? ⟨gb227, 0, none⟩ = some (.int .u64 x228000_4) := (blk_cell BK227.out 0).trans rfl
            have hcz116_1 : wr.cell? ⟨gb227, 1, none⟩ = some (.int .u64 x228001_4) := (blk_cell BK227.out 1).trans rfl
            have hfz116_0 := blk_frozen BK227.out 0
            have hfz116_1 := blk_frozen BK227.out 1
            go_wp2_with (first | ((with_reducible refine gate_callee (f := 157) rfl ?_); refine goesL_ (some 100) rfl rfl Tryz.func157 (by kernel_rfl) rfl #[.agg #[.int .u64 x228000_4, .int .u64 x228001_4], .int .u64 10] rfl (by (try simp only [List.map_toArray, List.map_cons, List.map_nil]); first | done | rfl | (simp only [List.length_drop, List.length_take]; rfl)) ?_; (with_reducible refine (reals_wide_over.calls k4 x228000_4 x228001_4 10 t240 t241 t242 _ A88.out).mono ?_); rintro e w117 ⟨rfl, hb⟩; refine ⟨_, rfl, ?_⟩; replace BK220 := Aside0.mk (bb BK220 hb); replace BK221 := Aside0.mk (bb BK221 hb); replace BK227 := Aside0.mk (bb BK227 hb); replace HB := Aside0.mk (below_step (bw HB) hb); (try clear hb); (try clear hb2); (try clear hk); (try clear hi)) | ((with_reducible refine gate_dst (N := 13) rfl ?_); refine box_event ?hg (N := 13) ?hd (cs := #[.int .u64 0, .int .u64 0]) (t := 127) ?hr ?_; (case hd => rfl); (case hg => rfl); (case hr => first | (go_simp; done) | (go_simp; rfl)); intro gb243 hg w118 hbox hb; have BK243 := Aside0.mk (hbox); have GW243 := Aside0.mk (bs HB hg : w.heap.size ≤ gb243); replace HB := Aside0.mk (below_step (bw HB) hb); have NB220_243 := Aside0.mk (nl BK220 hg); have NB243_220 := Aside0.mk (ng BK220 hg); replace BK220 := Aside0.mk (bb BK220 hb); have NB221_243 := Aside0.mk (nl BK221 hg); have NB243_221 := Aside0.mk (ng BK221 hg); replace BK221 := Aside0.mk (bb BK221 hb); have NB227_243 := Aside0.mk (nl BK227 hg); have NB243_227 := Aside0.mk (ng BK227 hg); replace BK227 := Aside0.mk (bb BK227 hb); clear hb hbox hg; have hnb119 := NB243_220.out; have hnc119 := NB220_243.out; have hnb120 := NB243_221.out; have hnc120 := NB221_243.out; have hnb121 := NB243_227.out; have hnc121 := NB227_243.out; obtain ⟨hcz122_0, hcz122_1, hfz122_0, hfz122_1⟩ := cf2 BK243; obtain ⟨hcz123_0, hcz123_1, hfz123_0, hfz123_1⟩ := cf2 BK227; have hnb124 := NB220_221.out; have hnc124 := NB221_220.out; obtain ⟨hcz125_0, hcz125_1, hcz125_2, hcz125_3, hcz125_4, hfz125_0, hfz125_1, hfz125_2, hfz125_3, hfz125_4⟩ := cf5 BK220; obtain ⟨hcz126_0, hcz126_1, hfz126_0, hfz126_1⟩ := cf2 BK221))
            refine bodyPost_ret (results_ct rfl _ _ gb221 23 #[.int .i64 (wrap64 (x228001_4)), .int .i64 x12_4] (0, 0) _ rfl (by (with_reducible repeat (first | refine blk_drewN ?_ _ | refine blk_drew ?_ | refine blk_alloc ?_ _)); refine blk_put (cs := #[.int .i64 (wrap64 (x228001_4)), .int .i64 x222001_52]) ?_ 1 _ rfl; (with_reducible repeat (first | refine blk_drewN ?_ _ | refine blk_drew ?_ | refine blk_alloc ?_ _)); refine blk_put (cs := #[.int .i64 x222000_52, .int .i64 x222001_52]) ?_ 0 _ rfl; (with_reducible repeat (first | refine blk_drewN ?_ _ | refine blk_drew ?_ | refine blk_alloc ?_ _)); refine blk_far ?_ NB221_243.out _; (with_reducible repeat (first | refine blk_drewN ?_ _ | refine blk_drew ?_ | refine blk_alloc ?_ _)); refine blk_far ?_ NB221_243.out _; (with_reducible repeat (first | refine blk_drewN ?_ _ | refine blk_drew ?_ | refine blk_alloc ?_ _)); exact BK221.out) Tryz.underlying23 rfl (by kernel_rfl)) rfl ?_
            exact ⟨by first | rfl | (simp [errW_none, errW_some] <;> rfl) | (simp only [← hji5, ← hji6, ← hji52]; first | rfl | (simp [errW_none, errW_some] <;> rfl)) | (simp [*, errW_none, errW_some] <;> rfl), bw HB⟩
end Go.Proofs.YtckbmniiecbalaaGreatDoor.PT
