-- written by a program of this session out of the kit's print (its words and its form)
import Derived.Test.YtckbmniiecbalaaGreatDoorPTgRa
import Derived.Test.YtckbmniiecbalaaGreatDoorPTgRd
import Derived.Test.YtckbmniiecbalaaGreatDoorPTgSi
import Derived.Test.YtckbmniiecbalaaGreatDoorPTsq
import Derived.Test.YtckbmniiecbalaaGreatDoorPTx0
namespace Go.Proofs.YtckbmniiecbalaaGreatDoor.PT
open Go.RowKit Go.Proofs.YtckbmniiecbalaaGreatDoorW.PrintWords Go.Proofs.YtckbmniiecbalaaGreatDoorW.PrintLast Go.Proofs.YtckbmniiecbalaaGreatDoorW.PrintMore
attribute [local go_sem] max2_int min2_int max_two min_two max_three min_three max_four min_four   -- for this text's walks alone
set_option linter.unusedVariables false
set_option linter.unusedSimpArgs false

/-! ### environref03_length: function 69 -/
mutual
def environref03_length.j0 : Nat → ByteArray → Int → Int → Bool → Option (Int)
 | 0, _, _, _, _ => none
 | k + 1, x0, x1, x5, x28 => if x28 = true then ((environref03_digits.f k x0 (wrap64 (x5 + 1))).bind fun t530 => (environref03_length.j1 k x0 x1 (wrap64 ((wrap64 (x5 + 1)) + t530)))) else (environref03_length.j1 k x0 x1 x5)
def environref03_length.j1 : Nat → ByteArray → Int → Int → Option (Int)
 | 0, _, _, _ => none
 | k + 1, x0, x1, x5 => if x5 = x1 then (some 0) else (if x5 < (x0.size : Int) then (if 0 ≤ x5 then (environref03_length.j2 k x0 x1 x5 (wrap64 (x5 + 1)) ((bt x0 x5) == 101)) else (none)) else (environref03_length.j2 k x0 x1 x5 (wrap64 (x5 + 1)) false))
def environref03_length.j2 : Nat → ByteArray → Int → Int → Int → Bool → Option (Int)
 | 0, _, _, _, _, _ => none
 | k + 1, x0, x1, x5, x6, x50 => if x50 = true then (if x6 < (x0.size : Int) then (if 0 ≤ x6 then (if (bt x0 x6) = 43 then (environref03_length.j3 k x0 x1 x5 x6 true) else (environref03_length.j3 k x0 x1 x5 x6 ((bt x0 x6) == 45))) else (none)) else (environref03_length.j3 k x0 x1 x5 x6 false)) else (some (wrap64 (x5 - x1)))
def environref03_length.j3 : Nat → ByteArray → Int → Int → Int → Bool → Option (Int)
 | 0, _, _, _, _, _ => none
 | k + 1, x0, x1, x5, x6, x66 => if x66 = true then (environref03_length.j4 k x0 x1 x5 (wrap64 (x6 + 1))) else (environref03_length.j4 k x0 x1 x5 x6)
def environref03_length.j4 : Nat → ByteArray → Int → Int → Int → Option (Int)
 | 0, _, _, _, _ => none
 | k + 1, x0, x1, x5, x6 => (environref03_digits.f k x0 x6).bind fun t531 => (if t531 > 0 then ((environref03_digits.f k x0 x6).bind fun t532 => (some (wrap64 ((wrap64 (x6 + t532)) - x1)))) else (some (wrap64 (x5 - x1))))
end
def environref03_length.f (k : Nat) (a0 : ByteArray) (a1 : Int) : Option (Int) := (environref03_digits.f k a0 a1).bind fun t528 => (if (wrap64 (a1 + t528)) < (a0.size : Int) then (if 0 ≤ (wrap64 (a1 + t528)) then (if (bt a0 (wrap64 (a1 + t528))) = 46 then ((environref03_digits.f k a0 (wrap64 ((wrap64 (a1 + t528)) + 1))).bind fun t529 => (environref03_length.j0 k a0 a1 (wrap64 (a1 + t528)) (decide (t529 > 0)))) else (environref03_length.j0 k a0 a1 (wrap64 (a1 + t528)) false)) else (none)) else (environref03_length.j0 k a0 a1 (wrap64 (a1 + t528)) false))
theorem environref03_length.mono_l : ∀ k, (∀ y0 y1 y2 y3, LeO (environref03_length.j0 k y0 y1 y2 y3) (environref03_length.j0 (k + 1) y0 y1 y2 y3)) ∧ (∀ y0 y1 y2, LeO (environref03_length.j1 k y0 y1 y2) (environref03_length.j1 (k + 1) y0 y1 y2)) ∧ (∀ y0 y1 y2 y3 y4, LeO (environref03_length.j2 k y0 y1 y2 y3 y4) (environref03_length.j2 (k + 1) y0 y1 y2 y3 y4)) ∧ (∀ y0 y1 y2 y3 y4, LeO (environref03_length.j3 k y0 y1 y2 y3 y4) (environref03_length.j3 (k + 1) y0 y1 y2 y3 y4)) ∧ (∀ y0 y1 y2 y3, LeO (environref03_length.j4 k y0 y1 y2 y3) (environref03_length.j4 (k + 1) y0 y1 y2 y3))
 | 0 => ⟨fun _ _ _ _ r h => by simp [environref03_length.j0] at h, fun _ _ _ r h => by simp [environref03_length.j1] at h, fun _ _ _ _ _ r h => by simp [environref03_length.j2] at h, fun _ _ _ _ _ r h => by simp [environref03_length.j3] at h, fun _ _ _ _ r h => by simp [environref03_length.j4] at h⟩
 | k + 1 => by
  obtain ⟨ih0, ih1, ih2, ih3, ih4⟩ := environref03_length.mono_l k
  refine ⟨?_, ?_, ?_, ?_, ?_⟩ <;> intros <;> (first | unfold environref03_length.j0 | unfold environref03_length.j1 | unfold environref03_length.j2 | unfold environref03_length.j3 | unfold environref03_length.j4) <;> (repeat' first
   | (with_reducible exact ih0 _ _ _ _)
   | (with_reducible exact ih1 _ _ _)
   | (with_reducible exact ih2 _ _ _ _ _)
   | (with_reducible exact ih3 _ _ _ _ _)
   | (with_reducible exact ih4 _ _ _ _)
   | (with_reducible exact environref03_digits.mono _ _ _)
   | (with_reducible exact LeO.refl _)
   | (with_reducible exact LeO.none _)
   | (with_reducible refine LeO.ite ?_ ?_)
   | (with_reducible refine LeO.bind ?_ (fun _ => ?_))
   | exact ih0 _ _ _ _
   | exact ih1 _ _ _
   | exact ih2 _ _ _ _ _
   | exact ih3 _ _ _ _ _
   | exact ih4 _ _ _ _
   | exact environref03_digits.mono _ _ _
   | exact LeO.none _
   | refine LeO.ite ?_ ?_
   | refine LeO.bind ?_ (fun _ => ?_))
theorem environref03_length.mono : ∀ a0 a1 k, LeO (environref03_length.f k a0 a1) (environref03_length.f (k + 1) a0 a1) := by
 intro a0 a1 k
 obtain ⟨ih0, ih1, ih2, ih3, ih4⟩ := environref03_length.mono_l k
 unfold environref03_length.f
 repeat' first
   | (with_reducible exact ih0 _ _ _ _)
   | (with_reducible exact ih1 _ _ _)
   | (with_reducible exact ih2 _ _ _ _ _)
   | (with_reducible exact ih3 _ _ _ _ _)
   | (with_reducible exact ih4 _ _ _ _)
   | (with_reducible exact environref03_digits.mono _ _ _)
   | (with_reducible exact LeO.refl _)
   | (with_reducible exact LeO.none _)
   | (with_reducible refine LeO.ite ?_ ?_)
   | (with_reducible refine LeO.bind ?_ (fun _ => ?_))
   | exact ih0 _ _ _ _
   | exact ih1 _ _ _
   | exact ih2 _ _ _ _ _
   | exact ih3 _ _ _ _ _
   | exact ih4 _ _ _ _
   | exact environref03_digits.mono _ _ _
   | exact LeO.none _
   | refine LeO.ite ?_ ?_
   | refine LeO.bind ?_ (fun _ => ?_)
set_option maxHeartbeats 8000000 in
set_option maxRecDepth 100000 in
theorem environref03_length.calls (k : Nat) (a0 : ByteArray) (a1 : Int) (r : Int) (w : World) (h : environref03_length.f k a0 a1 = some r) :
  Calls Tryz.prog 69 #[.string a0, .int .i64 a1] w fun e w' => e = .returned (.int .i64 r) ∧ Drawn0 w w' := by
 have H : ((environref03_digits.f k a0 a1).bind fun t528 => (if (wrap64 (a1 + t528)) < (a0.size : Int) then (if 0 ≤ (wrap64 (a1 + t528)) then (if (bt a0 (wrap64 (a1 + t528))) = 46 then ((environref03_digits.f k a0 (wrap64 ((wrap64 (a1 + t528)) + 1))).bind fun t529 => (environref03_length.j0 k a0 a1 (wrap64 (a1 + t528)) (decide (t529 > 0)))) else (environref03_length.j0 k a0 a1 (wrap64 (a1 + t528)) false)) else (none)) else (environref03_length.j0 k a0 a1 (wrap64 (a1 + t528)) false))) = some r := h
 clear h
 replace H := Option.bind_eq_some_iff.mp H
 obtain ⟨t528, A30, H⟩ := H
 try dsimp only at H
 have A3 := Aside0.mk A30
 clear A30
 have HC4 := Aside0.mk H
 clear H
 go_enter Tryz.func69, Tryz.ntmps69
 go_upto_region 2 with (first | (refine gc 66 ?_; refine gl (some 10) Tryz.func66 #[.string a0, .int .i64 a1] ?_; (with_reducible refine (environref03_digits.calls k a0 a1 t528 _ A3.out).mono ?_); rintro e w' ⟨rfl, ⟨nd, rfl⟩⟩; refine ⟨_, rfl, ?_⟩))
 (try simp only [sx])
 go_cut [28] (fun v28 wc => ∃ (kq : Nat) (x28_3 : Bool), v28 = .bool x28_3 ∧ Aside0 (environref03_length.j0 kq a0 a1 (wrap64 (a1 + t528)) x28_3 = some r) ∧ Aside0 (kq ≤ k) ∧ Drawn0 w wc)
 case first =>
  have H := HC4.out
  clear HC4
  by_cases c5 : (wrap64 (a1 + t528)) < (a0.size : Int)
  ·rw [if_pos c5] at H
   have c5b0 := decide_eq_true c5
   clear c5
   (first | rw [c5b0] | (simp only [i64_w, i32_w]; rw [c5b0]) | skip)
   obtain ⟨ji6, hji6⟩ : ∃ j_ : Int, (wrap64 (a1 + t528)) = j_ := ⟨_, rfl⟩
   replace H : (if 0 ≤ (ji6) then (if (bt a0 (ji6)) = 46 then ((environref03_digits.f k a0 (wrap64 ((ji6) + 1))).bind fun t529 => (environref03_length.j0 k a0 a1 ji6 (decide (t529 > 0)))) else (environref03_length.j0 k a0 a1 ji6 false)) else (none)) = some r := by first | (rw [hji6] at H; exact H) | (simp only [hji6] at H ⊢; exact H)
   (try rw [hji6] at c5b0)
   have hji6w : (IntKind.i64.wrap (a1 + t528)) = ji6 := (i64_w _).trans hji6
   by_cases c7 : 0 ≤ (ji6)
   ·rw [if_pos c7] at H
    have c7b0 := decide_eq_true c7
    clear c7
    by_cases c9 : (bt a0 (ji6)) = 46
    ·rw [if_pos c9] at H
     have c9b0 := beq_iff_eq.mpr c9
     have c9b1 := bne_eq_false_iff_eq.mpr c9
     clear c9
     replace H := Option.bind_eq_some_iff.mp H
     obtain ⟨t529, A100, H⟩ := H
     try dsimp only at H
     have A10 := Aside0.mk A100
     clear A100
     have H' := Aside0.mk H
     clear H
     have p8 : 0 ≤ ((ji6) : Int) := od
     have q8 : (ji6) < (a0.size : Int) := od
     have hx8 := bt_at a0 (ji6)
     replace p8 := eq_true p8
     replace q8 := eq_true q8
     go_wp2_with (first | (go_at_call 66; (with_reducible refine (environref03_digits.calls k a0 (wrap64 ((ji6) + 1)) t529 _ A10.out).mono ?_); rintro e w' ⟨rfl, ⟨nd, rfl⟩⟩))
     subst hji6
     go_meet
     case rel => exact ⟨_, (decide (t529 > 0)), q1, H', ko, dz⟩
    ·rw [if_neg c9] at H
     have c9b0 := beq_eq_false_iff_ne.mpr c9
     have c9b1 := bne_iff_ne.mpr c9
     have H' := Aside0.mk H
     clear H
     have p8 : 0 ≤ ((ji6) : Int) := od
     have q8 : (ji6) < (a0.size : Int) := od
     have hx8 := bt_at a0 (ji6)
     replace p8 := eq_true p8
     replace q8 := eq_true q8
     go_wp2
     subst hji6
     go_meet
     case rel => exact ⟨_, (false), q1, H', ko, dz⟩
   ·rw [if_neg c7] at H
    exact absurd H (by simp)
  ·rw [if_neg c5] at H
   have c5b0 := decide_eq_false c5
   clear c5
   (first | rw [c5b0] | (simp only [i64_w, i32_w]; rw [c5b0]) | skip)
   have H' := Aside0.mk H
   clear H
   go_wp2
   go_meet
   case rel => exact ⟨_, (false), q1, H', ko, dz⟩
 case rest =>
  clear HC4
  obtain ⟨kq, x28_3, rfl, HA, HJ3, ⟨mc3, rfl⟩⟩ := hcut
  cases kq with
  | zero => exact absurd HA.out (by simp [environref03_length.j0])
  | succ kj3 =>
   have H := HA.out
   clear HA
   simp only [environref03_length.j0] at H
   have HC11 := Aside0.mk H
   clear H
   go_upto_if 28 with (fail)
   go_cut [5] (fun v5 wc => ∃ (kq : Nat) (x5_10 : Int), v5 = .int .i64 x5_10 ∧ Aside0 (environref03_length.j1 kq a0 a1 x5_10 = some r) ∧ Aside0 (kq ≤ kj3) ∧ Drawn0 w wc)
   case first =>
    have H := HC11.out
    clear HC11
    by_cases c12 : x28_3 = true
    ·subst c12
     rw [if_pos rfl] at H
     replace H := Option.bind_eq_some_iff.mp H
     obtain ⟨t530, A130, H⟩ := H
     try dsimp only at H
     have A13 := Aside0.mk A130
     clear A130
     have H' := Aside0.mk H
     clear H
     go_wp2_with (first | (refine gc 66 ?_; refine gl (some 34) Tryz.func66 #[.string a0, .int .i64 (wrap64 ((wrap64 (a1 + t528)) + 1))] ?_; (with_reducible refine (environref03_digits.calls kj3 a0 (wrap64 ((wrap64 (a1 + t528)) + 1)) t530 _ A13.out).mono ?_); rintro e w' ⟨rfl, ⟨nd, rfl⟩⟩; refine ⟨_, rfl, ?_⟩))
     go_meet
     case rel => exact ⟨_, (wrap64 ((wrap64 ((wrap64 (a1 + t528)) + 1)) + t530)), q1, H', ⟨by have := HJ3.out; first | omega | exact Nat.le_refl _⟩, dz⟩
    ·replace c12 := Bool.eq_false_iff.mpr c12
     subst c12
     rw [if_neg (show ¬ (false = true) by decide)] at H
     have H' := Aside0.mk H
     clear H
     go_wp2
     go_meet
     case rel => exact ⟨_, ((wrap64 (a1 + t528))), q1, H', ⟨by have := HJ3.out; first | omega | exact Nat.le_refl _⟩, dz⟩
   case rest =>
    clear HC11
    obtain ⟨kq, x5_10, rfl, HA, HJ10, ⟨mc10, rfl⟩⟩ := hcut
    cases kq with
    | zero => exact absurd HA.out (by simp [environref03_length.j1])
    | succ kj10 =>
     have H := HA.out
     clear HA
     simp only [environref03_length.j1] at H
     by_cases c14 : x5_10 = a1
     ·rw [if_pos c14] at H
      have c14b0 := beq_iff_eq.mpr c14
      have c14b1 := bne_eq_false_iff_eq.mpr c14
      clear c14
      obtain rfl := Option.some.inj H
      go_wp2
      go_ret
      exact ⟨q1, dz⟩
     ·rw [if_neg c14] at H
      have c14b0 := beq_eq_false_iff_ne.mpr c14
      have c14b1 := bne_iff_ne.mpr c14
      have HC15 := Aside0.mk H
      clear H
      go_upto_region 7 with (fail)
      go_cut [50] (fun v50 wc => ∃ (kq : Nat) (x50_14 : Bool), v50 = .bool x50_14 ∧ Aside0 (environref03_length.j2 kq a0 a1 x5_10 (wrap64 (x5_10 + 1)) x50_14 = some r) ∧ Aside0 (kq ≤ kj10) ∧ Drawn0 w wc)
      case first =>
       have H := HC15.out
       clear HC15
       by_cases c16 : x5_10 < (a0.size : Int)
       ·rw [if_pos c16] at H
        have c16b0 := decide_eq_true c16
        clear c16
        (first | rw [c16b0] | (simp only [i64_w, i32_w]; rw [c16b0]) | skip)
        by_cases c17 : 0 ≤ x5_10
        ·rw [if_pos c17] at H
         have c17b0 := decide_eq_true c17
         clear c17
         have H' := Aside0.mk H
         clear H
         have p18 : 0 ≤ (x5_10 : Int) := od
         have q18 : x5_10 < (a0.size : Int) := od
         have hx18 := bt_at a0 x5_10
         replace p18 := eq_true p18
         replace q18 := eq_true q18
         go_wp2
         go_meet
         case rel => exact ⟨_, (((bt a0 x5_10) == 101)), q1, H', ⟨by have := HJ3.out; have := HJ10.out; first | omega | exact Nat.le_refl _⟩, dz⟩
        ·rw [if_neg c17] at H
         exact absurd H (by simp)
       ·rw [if_neg c16] at H
        have c16b0 := decide_eq_false c16
        clear c16
        (first | rw [c16b0] | (simp only [i64_w, i32_w]; rw [c16b0]) | skip)
        have H' := Aside0.mk H
        clear H
        go_wp2
        go_meet
        case rel => exact ⟨_, (false), q1, H', ⟨by have := HJ3.out; have := HJ10.out; first | omega | exact Nat.le_refl _⟩, dz⟩
      case rest =>
       clear HC15
       try clear c14
       try clear c14b0
       try clear c14b1
       obtain ⟨kq, x50_14, rfl, HA, HJ14, ⟨mc14, rfl⟩⟩ := hcut
       cases kq with
       | zero => exact absurd HA.out (by simp [environref03_length.j2])
       | succ kj14 =>
        have H := HA.out
        clear HA
        simp only [environref03_length.j2] at H
        by_cases c19 : x50_14 = true
        ·subst c19
         rw [if_pos rfl] at H
         have HC20 := Aside0.mk H
         clear H
         go_upto_region 8 with (fail)
         go_cut [66] (fun v66 wc => ∃ (kq : Nat) (x66_19 : Bool), v66 = .bool x66_19 ∧ Aside0 (environref03_length.j3 kq a0 a1 x5_10 (wrap64 (x5_10 + 1)) x66_19 = some r) ∧ Aside0 (kq ≤ kj14) ∧ Drawn0 w wc)
         case first =>
          have H := HC20.out
          clear HC20
          by_cases c21 : (wrap64 (x5_10 + 1)) < (a0.size : Int)
          ·rw [if_pos c21] at H
           have c21b0 := decide_eq_true c21
           clear c21
           (first | rw [c21b0] | (simp only [i64_w, i32_w]; rw [c21b0]) | skip)
           obtain ⟨ji22, hji22⟩ : ∃ j_ : Int, (wrap64 (x5_10 + 1)) = j_ := ⟨_, rfl⟩
           replace H : (if 0 ≤ (ji22) then (if (bt a0 (ji22)) = 43 then (environref03_length.j3 kj14 a0 a1 x5_10 (ji22) true) else (environref03_length.j3 kj14 a0 a1 x5_10 (ji22) ((bt a0 (ji22)) == 45))) else (none)) = some r := by first | (rw [hji22] at H; exact H) | (simp only [hji22] at H ⊢; exact H)
           (try rw [hji22] at c21b0)
           have hji22w : (IntKind.i64.wrap (x5_10 + 1)) = ji22 := (i64_w _).trans hji22
           by_cases c23 : 0 ≤ (ji22)
           ·rw [if_pos c23] at H
            have c23b0 := decide_eq_true c23
            clear c23
            by_cases c25 : (bt a0 (ji22)) = 43
            ·rw [if_pos c25] at H
             have c25b0 := beq_iff_eq.mpr c25
             have c25b1 := bne_eq_false_iff_eq.mpr c25
             clear c25
             have H' := Aside0.mk H
             clear H
             have p24 : 0 ≤ ((ji22) : Int) := od
             have q24 : (ji22) < (a0.size : Int) := od
             have hx24 := bt_at a0 (ji22)
             replace p24 := eq_true p24
             replace q24 := eq_true q24
             go_wp2
             subst hji22
             go_meet
             case rel => exact ⟨_, (true), q1, H', ⟨by have := HJ3.out; have := HJ10.out; have := HJ14.out; first | omega | exact Nat.le_refl _⟩, dz⟩
            ·rw [if_neg c25] at H
             have c25b0 := beq_eq_false_iff_ne.mpr c25
             have c25b1 := bne_iff_ne.mpr c25
             have H' := Aside0.mk H
             clear H
             have p24 : 0 ≤ ((ji22) : Int) := od
             have q24 : (ji22) < (a0.size : Int) := od
             have hx24 := bt_at a0 (ji22)
             replace p24 := eq_true p24
             replace q24 := eq_true q24
             have p26 : 0 ≤ ((ji22) : Int) := od
             have q26 : (ji22) < (a0.size : Int) := od
             have hx26 := bt_at a0 (ji22)
             replace p26 := eq_true p26
             replace q26 := eq_true q26
             go_wp2
             subst hji22
             go_meet
             case rel => exact ⟨_, (((bt a0 (wrap64 (x5_10 + 1))) == 45)), q1, H', ⟨by have := HJ3.out; have := HJ10.out; have := HJ14.out; first | omega | exact Nat.le_refl _⟩, dz⟩
           ·rw [if_neg c23] at H
            exact absurd H (by simp)
          ·rw [if_neg c21] at H
           have c21b0 := decide_eq_false c21
           clear c21
           (first | rw [c21b0] | (simp only [i64_w, i32_w]; rw [c21b0]) | skip)
           have H' := Aside0.mk H
           clear H
           go_wp2
           go_meet
           case rel => exact ⟨_, (false), q1, H', ⟨by have := HJ3.out; have := HJ10.out; have := HJ14.out; first | omega | exact Nat.le_refl _⟩, dz⟩
         case rest =>
          clear HC20
          try clear c14
          try clear c14b0
          try clear c14b1
          try clear c19
          obtain ⟨kq, x66_19, rfl, HA, HJ19, ⟨mc19, rfl⟩⟩ := hcut
          cases kq with
          | zero => exact absurd HA.out (by simp [environref03_length.j3])
          | succ kj19 =>
           have H := HA.out
           clear HA
           simp only [environref03_length.j3] at H
           have HC27 := Aside0.mk H
           clear H
           go_upto_if 66 with (fail)
           go_cut [6] (fun v6 wc => ∃ (kq : Nat) (x6_26 : Int), v6 = .int .i64 x6_26 ∧ Aside0 (environref03_length.j4 kq a0 a1 x5_10 x6_26 = some r) ∧ Aside0 (kq ≤ kj19) ∧ Drawn0 w wc)
           case first =>
            have H := HC27.out
            clear HC27
            by_cases c28 : x66_19 = true
            ·subst c28
             rw [if_pos rfl] at H
             have H' := Aside0.mk H
             clear H
             go_wp2
             go_meet
             case rel => exact ⟨_, (wrap64 ((wrap64 (x5_10 + 1)) + 1)), q1, H', ⟨by have := HJ3.out; have := HJ10.out; have := HJ14.out; have := HJ19.out; first | omega | exact Nat.le_refl _⟩, dz⟩
            ·replace c28 := Bool.eq_false_iff.mpr c28
             subst c28
             rw [if_neg (show ¬ (false = true) by decide)] at H
             have H' := Aside0.mk H
             clear H
             go_wp2
             go_meet
             case rel => exact ⟨_, ((wrap64 (x5_10 + 1))), q1, H', ⟨by have := HJ3.out; have := HJ10.out; have := HJ14.out; have := HJ19.out; first | omega | exact Nat.le_refl _⟩, dz⟩
           case rest =>
            clear HC27
            try clear c14
            try clear c14b0
            try clear c14b1
            try clear c19
            obtain ⟨kq, x6_26, rfl, HA, HJ26, ⟨mc26, rfl⟩⟩ := hcut
            cases kq with
            | zero => exact absurd HA.out (by simp [environref03_length.j4])
            | succ kj26 =>
             have H := HA.out
             clear HA
             simp only [environref03_length.j4] at H
             replace H := Option.bind_eq_some_iff.mp H
             obtain ⟨t531, A290, H⟩ := H
             try dsimp only at H
             have A29 := Aside0.mk A290
             clear A290
             by_cases c30 : t531 > 0
             ·rw [if_pos c30] at H
              have c30b0 := decide_eq_true c30
              clear c30
              replace H := Option.bind_eq_some_iff.mp H
              obtain ⟨t532, A310, H⟩ := H
              try dsimp only at H
              have A31 := Aside0.mk A310
              clear A310
              obtain rfl := Option.some.inj H
              go_wp2_with (first | (refine gc 66 ?_; refine gl (some 71) Tryz.func66 #[.string a0, .int .i64 x6_26] ?_; (with_reducible refine (environref03_digits.calls kj26 a0 x6_26 t531 _ A29.out).mono ?_); rintro e w' ⟨rfl, ⟨nd, rfl⟩⟩; refine ⟨_, rfl, ?_⟩) | (refine gc 66 ?_; refine gl (some 76) Tryz.func66 #[.string a0, .int .i64 x6_26] ?_; (with_reducible refine (environref03_digits.calls kj26 a0 x6_26 t532 _ A31.out).mono ?_); rintro e w' ⟨rfl, ⟨nd, rfl⟩⟩; refine ⟨_, rfl, ?_⟩))
              go_ret
              exact ⟨q1, dz⟩
             ·rw [if_neg c30] at H
              have c30b0 := decide_eq_false c30
              clear c30
              obtain rfl := Option.some.inj H
              go_wp2_with (first | (refine gc 66 ?_; refine gl (some 71) Tryz.func66 #[.string a0, .int .i64 x6_26] ?_; (with_reducible refine (environref03_digits.calls kj26 a0 x6_26 t531 _ A29.out).mono ?_); rintro e w' ⟨rfl, ⟨nd, rfl⟩⟩; refine ⟨_, rfl, ?_⟩))
              go_ret
              exact ⟨q1, dz⟩
        ·replace c19 := Bool.eq_false_iff.mpr c19
         subst c19
         rw [if_neg (show ¬ (false = true) by decide)] at H
         obtain rfl := Option.some.inj H
         go_wp2
         go_ret
         exact ⟨q1, dz⟩

/-! ### environref03_real: function 70 -/
mutual
def environref03_real.l0 : Nat → Int → Bool → ByteArray → ByteArray → Int → Bool → Int → Option (Int × Int × Int)
 | 0, _, _, _, _, _, _, _ => none
 | k + 1, x0, x1, x2, x8, x9, x10, x11 => if x11 < (x2.size : Int) then (if 0 ≤ x11 then (environref03_real.j1 k x0 x1 x2 x8 x9 x10 x11 ((bt x2 x11) != 101)) else (none)) else (environref03_real.j1 k x0 x1 x2 x8 x9 x10 x11 false)
def environref03_real.j1 : Nat → Int → Bool → ByteArray → ByteArray → Int → Bool → Int → Bool → Option (Int × Int × Int)
 | 0, _, _, _, _, _, _, _, _ => none
 | k + 1, x0, x1, x2, x8, x9, x10, x11, x25 => if x25 = true then (if 0 ≤ x11 then (if x11 < (x2.size : Int) then (if (bt x2 x11) = 46 then (environref03_real.l0 k x0 x1 x2 x8 x9 true (wrap64 (x11 + 1))) else (if x11 ≤ (wrap64 (x11 + 1)) then (if (wrap64 (x11 + 1)) ≤ (x2.size : Int) then (if x8.size + (x2.extract (x11 : Int).toNat ((wrap64 (x11 + 1)) : Int).toNat).size ≤ 9223372036854775807 then (if x10 = true then (environref03_real.l0 k x0 x1 x2 (x8 ++ (x2.extract (x11 : Int).toNat ((wrap64 (x11 + 1)) : Int).toNat)) (wrap64 (x9 + 1)) x10 (wrap64 (x11 + 1))) else (environref03_real.l0 k x0 x1 x2 (x8 ++ (x2.extract (x11 : Int).toNat ((wrap64 (x11 + 1)) : Int).toNat)) x9 x10 (wrap64 (x11 + 1)))) else (none)) else (none)) else (none))) else (none)) else (none)) else (if x11 < (x2.size : Int) then (if 0 ≤ (wrap64 (x11 + 1)) then (if (wrap64 (x11 + 1)) < (x2.size : Int) then (if (bt x2 (wrap64 (x11 + 1))) = 43 then (environref03_real.j2 k x0 x1 x2 x8 (wrap64 (-x9)) (wrap64 (x11 + 1)) ((bt x2 (wrap64 (x11 + 1))) == 45) true) else (environref03_real.j2 k x0 x1 x2 x8 (wrap64 (-x9)) (wrap64 (x11 + 1)) ((bt x2 (wrap64 (x11 + 1))) == 45) ((bt x2 (wrap64 (x11 + 1))) == 45))) else (none)) else (none)) else ((environref03_nat.f k x8).bind fun t651 => ((environref02_Rounded.f k x0 0 x1 t651 (wrap64 (-x9)) false).bind fun bt654 => (some (bt654.1, bt654.2.1, bt654.2.2)))))
def environref03_real.j2 : Nat → Int → Bool → ByteArray → ByteArray → Int → Int → Bool → Bool → Option (Int × Int × Int)
 | 0, _, _, _, _, _, _, _, _ => none
 | k + 1, x0, x1, x2, x8, x12, x13, x14, x63 => if x63 = true then (environref03_real.j3 k x0 x1 x2 x8 x12 (wrap64 (x13 + 1)) x14) else (environref03_real.j3 k x0 x1 x2 x8 x12 x13 x14)
def environref03_real.j3 : Nat → Int → Bool → ByteArray → ByteArray → Int → Int → Bool → Option (Int × Int × Int)
 | 0, _, _, _, _, _, _, _ => none
 | k + 1, x0, x1, x2, x8, x12, x13, x14 => if 0 ≤ x13 then (if x13 ≤ (x2.size : Int) then ((environref03_value.f k (x2.extract (x13 : Int).toNat x2.size)).bind fun t638 => (if t638 > 1000000000 then (environref03_real.j4 k x0 x1 x8 x12 x14 1000000000) else (environref03_real.j4 k x0 x1 x8 x12 x14 t638))) else (none)) else (none)
def environref03_real.j4 : Nat → Int → Bool → ByteArray → Int → Bool → Int → Option (Int × Int × Int)
 | 0, _, _, _, _, _, _ => none
 | k + 1, x0, x1, x8, x12, x14, x15 => if x14 = true then ((environref03_nat.f k x8).bind fun t639 => ((environref02_Rounded.f k x0 0 x1 t639 (wrap64 (x12 + (wrap64 (-x15)))) false).bind fun bt642 => (some (bt642.1, bt642.2.1, bt642.2.2)))) else ((environref03_nat.f k x8).bind fun t645 => ((environref02_Rounded.f k x0 0 x1 t645 (wrap64 (x12 + x15)) false).bind fun bt648 => (some (bt648.1, bt648.2.1, bt648.2.2))))
end
def environref03_real.f (k : Nat) (a0 : Int) (a1 : Bool) (a2 : ByteArray) : Option (Int × Int × Int) := environref03_real.l0 k a0 a1 a2 (⟨#[]⟩ : ByteArray) 0 false 0
theorem environref03_real.mono_l : ∀ k, (∀ y0 y1 y2 y3 y4 y5 y6, LeO (environref03_real.l0 k y0 y1 y2 y3 y4 y5 y6) (environref03_real.l0 (k + 1) y0 y1 y2 y3 y4 y5 y6)) ∧ (∀ y0 y1 y2 y3 y4 y5 y6 y7, LeO (environref03_real.j1 k y0 y1 y2 y3 y4 y5 y6 y7) (environref03_real.j1 (k + 1) y0 y1 y2 y3 y4 y5 y6 y7)) ∧ (∀ y0 y1 y2 y3 y4 y5 y6 y7, LeO (environref03_real.j2 k y0 y1 y2 y3 y4 y5 y6 y7) (environref03_real.j2 (k + 1) y0 y1 y2 y3 y4 y5 y6 y7)) ∧ (∀ y0 y1 y2 y3 y4 y5 y6, LeO (environref03_real.j3 k y0 y1 y2 y3 y4 y5 y6) (environref03_real.j3 (k + 1) y0 y1 y2 y3 y4 y5 y6)) ∧ (∀ y0 y1 y2 y3 y4 y5, LeO (environref03_real.j4 k y0 y1 y2 y3 y4 y5) (environref03_real.j4 (k + 1) y0 y1 y2 y3 y4 y5))
 | 0 => ⟨fun _ _ _ _ _ _ _ r h => by simp [environref03_real.l0] at h, fun _ _ _ _ _ _ _ _ r h => by simp [environref03_real.j1] at h, fun _ _ _ _ _ _ _ _ r h => by simp [environref03_real.j2] at h, fun _ _ _ _ _ _ _ r h => by simp [environref03_real.j3] at h, fun _ _ _ _ _ _ r h => by simp [environref03_real.j4] at h⟩
 | k + 1 => by
  obtain ⟨ih0, ih1, ih2, ih3, ih4⟩ := environref03_real.mono_l k
  refine ⟨?_, ?_, ?_, ?_, ?_⟩ <;> intros <;> (first | unfold environref03_real.l0 | unfold environref03_real.j1 | unfold environref03_real.j2 | unfold environref03_real.j3 | unfold environref03_real.j4) <;> (repeat' first
   | (with_reducible exact ih0 _ _ _ _ _ _ _)
   | (with_reducible exact ih1 _ _ _ _ _ _ _ _)
   | (with_reducible exact ih2 _ _ _ _ _ _ _ _)
   | (with_reducible exact ih3 _ _ _ _ _ _ _)
   | (with_reducible exact ih4 _ _ _ _ _ _)
   | (with_reducible exact environref02_Rounded.mono _ _ _ _ _ _ _)
   | (with_reducible exact environref03_nat.mono _ _)
   | (with_reducible exact environref03_value.mono _ _)
   | (with_reducible exact LeO.refl _)
   | (with_reducible exact LeO.none _)
   | (with_reducible refine LeO.ite ?_ ?_)
   | (with_reducible refine LeO.bind ?_ (fun _ => ?_))
   | exact ih0 _ _ _ _ _ _ _
   | exact ih1 _ _ _ _ _ _ _ _
   | exact ih2 _ _ _ _ _ _ _ _
   | exact ih3 _ _ _ _ _ _ _
   | exact ih4 _ _ _ _ _ _
   | exact environref02_Rounded.mono _ _ _ _ _ _ _
   | exact environref03_nat.mono _ _
   | exact environref03_value.mono _ _
   | exact LeO.none _
   | refine LeO.ite ?_ ?_
   | refine LeO.bind ?_ (fun _ => ?_))
theorem environref03_real.mono : ∀ a0 a1 a2 k, LeO (environref03_real.f k a0 a1 a2) (environref03_real.f (k + 1) a0 a1 a2) := by
 intro a0 a1 a2 k
 obtain ⟨ih0, ih1, ih2, ih3, ih4⟩ := environref03_real.mono_l k
 unfold environref03_real.f
 repeat' first
   | (with_reducible exact ih0 _ _ _ _ _ _ _)
   | (with_reducible exact ih1 _ _ _ _ _ _ _ _)
   | (with_reducible exact ih2 _ _ _ _ _ _ _ _)
   | (with_reducible exact ih3 _ _ _ _ _ _ _)
   | (with_reducible exact ih4 _ _ _ _ _ _)
   | (with_reducible exact environref02_Rounded.mono _ _ _ _ _ _ _)
   | (with_reducible exact environref03_nat.mono _ _)
   | (with_reducible exact environref03_value.mono _ _)
   | (with_reducible exact LeO.refl _)
   | (with_reducible exact LeO.none _)
   | (with_reducible refine LeO.ite ?_ ?_)
   | (with_reducible refine LeO.bind ?_ (fun _ => ?_))
   | exact ih0 _ _ _ _ _ _ _
   | exact ih1 _ _ _ _ _ _ _ _
   | exact ih2 _ _ _ _ _ _ _ _
   | exact ih3 _ _ _ _ _ _ _
   | exact ih4 _ _ _ _ _ _
   | exact environref02_Rounded.mono _ _ _ _ _ _ _
   | exact environref03_nat.mono _ _
   | exact environref03_value.mono _ _
   | exact LeO.none _
   | refine LeO.ite ?_ ?_
   | refine LeO.bind ?_ (fun _ => ?_)
set_option maxHeartbeats 8000000 in
set_option maxRecDepth 100000 in
theorem environref03_real.calls (k : Nat) (a0 : Int) (a1 : Bool) (a2 : ByteArray) (r1 : Int) (r2 : Int) (r3 : Int) (w : World) (h : environref03_real.f k a0 a1 a2 = some (r1, r2, r3)) :
  Calls Tryz.prog 70 #[.int .i64 a0, .bool a1, .string a2] w fun e w' => e = .returned (.tuple #[.agg #[.int .i64 r1, .int .i64 r2], .int .i64 r3]) ∧ Below w.heap.size w w' := by
 have hu23 := Tryz.underlying23
 have hu123 := Tryz.underlying123
 have HB := Aside0.mk (Below.refl w.heap.size w)
 have H : (environref03_real.l0 k a0 a1 a2 (⟨#[]⟩ : ByteArray) 0 false 0) = some (r1, r2, r3) := h
 clear h
 have H' := Aside0.mk H
 clear H
 go_enter Tryz.func70, Tryz.ntmps70
 go_wp2_with (first | ((with_reducible refine gate_dst (N := 6) rfl ?_); refine box_event ?hg (N := 6) ?hd (cs := #[.int .i64 0, .int .i64 0]) (t := 23) ?hr ?_; (case hd => rfl); (case hg => rfl); (case hr => first | (go_simp; done) | (go_simp; rfl)); intro gb637 hg w4 hbox hb; have BK637 := Aside0.mk (hbox); have GW637 := Aside0.mk (bs HB hg : w.heap.size ≤ gb637); replace HB := bt_ HB hb; clear hb hbox hg))
 go_loopg [8, 9, 10, 11] k (fun kq v8 v9 v10 v11 w' => ∃ (x8_1 : ByteArray) (x9_1 : Int) (x10_1 : Bool) (x11_1 : Int), v8 = .string x8_1 ∧ v9 = .int .i64 x9_1 ∧ v10 = .bool x10_1 ∧ v11 = .int .i64 x11_1 ∧ Aside0 (environref03_real.l0 kq a0 a1 a2 x8_1 x9_1 x10_1 x11_1 = some (r1, r2, r3)) ∧ Aside0 (kq ≤ k) ∧ Aside0 (w'.heap[gb637]? = some (.cells #[.int .i64 0, .int .i64 0] 23 (0, 0))) ∧ Aside0 (Below w.heap.size w w'))
 case atStart => exact ⟨((⟨#[]⟩ : ByteArray)), (0), (false), (0), q1, q1, q1, q1, H', ⟨Nat.le_refl _⟩, ⟨by (with_reducible repeat (first | refine blk_drewN ?_ _ | refine blk_drew ?_ | refine blk_alloc ?_ _)); exact BK637.out⟩, ⟨bw HB⟩⟩
 case round =>
  clear H'
  obtain ⟨x8_1, x9_1, x10_1, x11_1, rfl, rfl, rfl, rfl, HA, HK1, BK637, HB⟩ := hrel
  cases gk with
  | zero => exact absurd HA.out (by simp [environref03_real.l0])
  | succ k1 =>
   have H := HA.out
   clear HA
   simp only [environref03_real.l0] at H
   have HC5 := Aside0.mk H
   clear H
   go_upto_region 2 with (fail)
   go_cut [25] (fun v25 wc => ∃ (kq : Nat) (x25_4 : Bool), v25 = .bool x25_4 ∧ Aside0 (environref03_real.j1 kq a0 a1 a2 x8_1 x9_1 x10_1 x11_1 x25_4 = some (r1, r2, r3)) ∧ Aside0 (kq ≤ k1) ∧ Aside0 (wc.heap[gb637]? = some (.cells #[.int .i64 0, .int .i64 0] 23 (0, 0))) ∧ Aside0 (Below w.heap.size w wc))
   case first =>
    have H := HC5.out
    clear HC5
    by_cases c6 : x11_1 < (a2.size : Int)
    ·rw [if_pos c6] at H
     have c6b0 := decide_eq_true c6
     clear c6
     (first | rw [c6b0] | (simp only [i64_w, i32_w]; rw [c6b0]) | skip)
     by_cases c7 : 0 ≤ x11_1
     ·rw [if_pos c7] at H
      have c7b0 := decide_eq_true c7
      clear c7
      have H' := Aside0.mk H
      clear H
      have p8 : 0 ≤ (x11_1 : Int) := od
      have q8 : x11_1 < (a2.size : Int) := od
      have hx8 := bt_at a2 x11_1
      replace p8 := eq_true p8
      replace q8 := eq_true q8
      go_wp2
      go_meet
      case rel => exact ⟨_, (((bt a2 x11_1) != 101)), q1, H', ⟨by have := HK1.out; first | omega | exact Nat.le_refl _⟩, ⟨by (with_reducible repeat (first | refine blk_drewN ?_ _ | refine blk_drew ?_ | refine blk_alloc ?_ _)); exact BK637.out⟩, ⟨bw HB⟩⟩
     ·rw [if_neg c7] at H
      exact absurd H (by simp)
    ·rw [if_neg c6] at H
     have c6b0 := decide_eq_false c6
     clear c6
     (first | rw [c6b0] | (simp only [i64_w, i32_w]; rw [c6b0]) | skip)
     have H' := Aside0.mk H
     clear H
     go_wp2
     go_meet
     case rel => exact ⟨_, (false), q1, H', ⟨by have := HK1.out; first | omega | exact Nat.le_refl _⟩, ⟨by (with_reducible repeat (first | refine blk_drewN ?_ _ | refine blk_drew ?_ | refine blk_alloc ?_ _)); exact BK637.out⟩, ⟨bw HB⟩⟩
   case rest =>
    clear HC5
    obtain ⟨kq, x25_4, rfl, HA, HJ4, BK637, HB⟩ := hcut
    cases kq with
    | zero => exact absurd HA.out (by simp [environref03_real.j1])
    | succ kj4 =>
     have H := HA.out
     clear HA
     simp only [environref03_real.j1] at H
     by_cases c9 : x25_4 = true
     ·subst c9
      rw [if_pos rfl] at H
      by_cases c10 : 0 ≤ x11_1
      ·rw [if_pos c10] at H
       have c10b0 := decide_eq_true c10
       clear c10
       by_cases c11 : x11_1 < (a2.size : Int)
       ·rw [if_pos c11] at H
        have c11b0 := decide_eq_true c11
        clear c11
        by_cases c13 : (bt a2 x11_1) = 46
        ·rw [if_pos c13] at H
         have c13b0 := beq_iff_eq.mpr c13
         have c13b1 := bne_eq_false_iff_eq.mpr c13
         clear c13
         have H' := Aside0.mk H
         clear H
         have p12 : 0 ≤ (x11_1 : Int) := od
         have q12 : x11_1 < (a2.size : Int) := od
         have hx12 := bt_at a2 x11_1
         replace p12 := eq_true p12
         replace q12 := eq_true q12
         go_wp2
         go_roundg kj4
         case measure => have := HK1.out; have := HJ4.out; omega
         case rel => exact ⟨(x8_1), (x9_1), (true), (wrap64 (x11_1 + 1)), q1, q1, q1, q1, H', ⟨by have := HK1.out; have := HJ4.out; omega⟩, ⟨by (with_reducible repeat (first | refine blk_drewN ?_ _ | refine blk_drew ?_ | refine blk_alloc ?_ _)); exact BK637.out⟩, ⟨bw HB⟩⟩
        ·rw [if_neg c13] at H
         have c13b0 := beq_eq_false_iff_ne.mpr c13
         have c13b1 := bne_iff_ne.mpr c13
         have c14b0 := eq_true (od : 0 ≤ x11_1)
         by_cases c15 : x11_1 ≤ (wrap64 (x11_1 + 1))
         ·rw [if_pos c15] at H
          have c15b0 := eq_true c15
          have c15b1 := decide_eq_true c15
          by_cases c16 : (wrap64 (x11_1 + 1)) ≤ (a2.size : Int)
          ·rw [if_pos c16] at H
           have c16b0 := eq_true c16
           have c16b1 := decide_eq_true c16
           by_cases c17 : x8_1.size + (a2.extract (x11_1 : Int).toNat ((wrap64 (x11_1 + 1)) : Int).toNat).size ≤ 9223372036854775807
           ·rw [if_pos c17] at H
            have c17b0 := eq_true c17
            have c17b1 := decide_eq_true c17
            try have c17b2 : (9223372036854775807 < x8_1.size + (a2.extract (x11_1 : Int).toNat ((wrap64 (x11_1 + 1)) : Int).toNat).size) = False := eq_false (Nat.not_lt.2 c17)
            by_cases c18 : x10_1 = true
            ·subst c18
             rw [if_pos rfl] at H
             have H' := Aside0.mk H
             clear H
             have p12 : 0 ≤ (x11_1 : Int) := od
             have q12 : x11_1 < (a2.size : Int) := od
             have hx12 := bt_at a2 x11_1
             replace p12 := eq_true p12
             replace q12 := eq_true q12
             go_wp2
             go_roundg kj4
             case measure => have := HK1.out; have := HJ4.out; omega
             case rel => exact ⟨(x8_1 ++ (a2.extract (x11_1 : Int).toNat ((wrap64 (x11_1 + 1)) : Int).toNat)), (wrap64 (x9_1 + 1)), (true), (wrap64 (x11_1 + 1)), q1, q1, q1, q1, H', ⟨by have := HK1.out; have := HJ4.out; omega⟩, ⟨by (with_reducible repeat (first | refine blk_drewN ?_ _ | refine blk_drew ?_ | refine blk_alloc ?_ _)); exact BK637.out⟩, ⟨bw HB⟩⟩
            ·replace c18 := Bool.eq_false_iff.mpr c18
             subst c18
             rw [if_neg (show ¬ (false = true) by decide)] at H
             have H' := Aside0.mk H
             clear H
             have p12 : 0 ≤ (x11_1 : Int) := od
             have q12 : x11_1 < (a2.size : Int) := od
             have hx12 := bt_at a2 x11_1
             replace p12 := eq_true p12
             replace q12 := eq_true q12
             go_wp2
             go_roundg kj4
             case measure => have := HK1.out; have := HJ4.out; omega
             case rel => exact ⟨(x8_1 ++ (a2.extract (x11_1 : Int).toNat ((wrap64 (x11_1 + 1)) : Int).toNat)), (x9_1), (false), (wrap64 (x11_1 + 1)), q1, q1, q1, q1, H', ⟨by have := HK1.out; have := HJ4.out; omega⟩, ⟨by (with_reducible repeat (first | refine blk_drewN ?_ _ | refine blk_drew ?_ | refine blk_alloc ?_ _)); exact BK637.out⟩, ⟨bw HB⟩⟩
           ·rw [if_neg c17] at H
            exact absurd H (by simp)
          ·rw [if_neg c16] at H
           exact absurd H (by simp)
         ·rw [if_neg c15] at H
          exact absurd H (by simp)
       ·rw [if_neg c11] at H
        exact absurd H (by simp)
      ·rw [if_neg c10] at H
       exact absurd H (by simp)
     ·replace c9 := Bool.eq_false_iff.mpr c9
      subst c9
      rw [if_neg (show ¬ (false = true) by decide)] at H
      by_cases c19 : x11_1 < (a2.size : Int)
      ·rw [if_pos c19] at H
       have c19b0 := decide_eq_true c19
       clear c19
       obtain ⟨ji20, hji20⟩ : ∃ j_ : Int, (wrap64 (x11_1 + 1)) = j_ := ⟨_, rfl⟩
       replace H : (if 0 ≤ (ji20) then (if (ji20) < (a2.size : Int) then (if (bt a2 (ji20)) = 43 then (environref03_real.j2 kj4 a0 a1 a2 x8_1 (wrap64 (-x9_1)) ji20 ((bt a2 (ji20)) == 45) true) else (environref03_real.j2 kj4 a0 a1 a2 x8_1 (wrap64 (-x9_1)) ji20 ((bt a2 (ji20)) == 45) ((bt a2 (ji20)) == 45))) else (none)) else (none)) = some (r1, r2, r3) := by first | (rw [hji20] at H; exact H) | (simp only [hji20] at H ⊢; exact H)
       have hji20w : (IntKind.i64.wrap (x11_1 + 1)) = ji20 := (i64_w _).trans hji20
       by_cases c21 : 0 ≤ (ji20)
       ·rw [if_pos c21] at H
        have c21b0 := decide_eq_true c21
        clear c21
        by_cases c22 : (ji20) < (a2.size : Int)
        ·rw [if_pos c22] at H
         have c22b0 := decide_eq_true c22
         clear c22
         have HC24 := Aside0.mk H
         clear H
         have p23 : 0 ≤ ((ji20) : Int) := od
         have q23 : (ji20) < (a2.size : Int) := od
         have hx23 := bt_at a2 (ji20)
         replace p23 := eq_true p23
         replace q23 := eq_true q23
         go_upto_region 13 with (fail)
         go_cut [63] (fun v63 wc => ∃ (kq : Nat) (x63_23 : Bool), v63 = .bool x63_23 ∧ Aside0 (environref03_real.j2 kq a0 a1 a2 x8_1 (wrap64 (-x9_1)) ji20 ((bt a2 (ji20)) == 45) x63_23 = some (r1, r2, r3)) ∧ Aside0 (kq ≤ kj4) ∧ Aside0 (wc.heap[gb637]? = some (.cells #[.int .i64 0, .int .i64 0] 23 (0, 0))) ∧ Aside0 (Below w.heap.size w wc))
         case first =>
          have H := HC24.out
          clear HC24
          by_cases c26 : (bt a2 (ji20)) = 43
          ·rw [if_pos c26] at H
           have c26b0 := beq_iff_eq.mpr c26
           have c26b1 := bne_eq_false_iff_eq.mpr c26
           clear c26
           (first | rw [c26b0] | (simp only [i64_w, i32_w]; rw [c26b0]) | skip)
           have H' := Aside0.mk H
           clear H
           have p25 : 0 ≤ ((ji20) : Int) := od
           have q25 : (ji20) < (a2.size : Int) := od
           have hx25 := bt_at a2 (ji20)
           replace p25 := eq_true p25
           replace q25 := eq_true q25
           go_wp2
           go_meet
           case rel => exact ⟨_, (true), q1, H', ⟨by have := HK1.out; have := HJ4.out; first | omega | exact Nat.le_refl _⟩, ⟨by (with_reducible repeat (first | refine blk_drewN ?_ _ | refine blk_drew ?_ | refine blk_alloc ?_ _)); exact BK637.out⟩, ⟨bw HB⟩⟩
          ·rw [if_neg c26] at H
           have c26b0 := beq_eq_false_iff_ne.mpr c26
           have c26b1 := bne_iff_ne.mpr c26
           (first | rw [c26b0] | (simp only [i64_w, i32_w]; rw [c26b0]) | skip)
           have H' := Aside0.mk H
           clear H
           have p25 : 0 ≤ ((ji20) : Int) := od
           have q25 : (ji20) < (a2.size : Int) := od
           have hx25 := bt_at a2 (ji20)
           replace p25 := eq_true p25
           replace q25 := eq_true q25
           have p27 : 0 ≤ ((ji20) : Int) := od
           have q27 : (ji20) < (a2.size : Int) := od
           have hx27 := bt_at a2 (ji20)
           replace p27 := eq_true p27
           replace q27 := eq_true q27
           go_wp2
           go_meet
           case rel => exact ⟨_, (((bt a2 (ji20)) == 45)), (by first | rfl | (simp; done) | (simp only [← hji20] <;> (first | rfl | simp)) | (simp [*]; done)), H', ⟨by have := HK1.out; have := HJ4.out; first | omega | exact Nat.le_refl _⟩, ⟨by (with_reducible repeat (first | refine blk_drewN ?_ _ | refine blk_drew ?_ | refine blk_alloc ?_ _)); exact BK637.out⟩, ⟨bw HB⟩⟩
         case rest =>
          clear HC24
          try clear c9
          try clear c19
          try clear c19b0
          try clear c21
          try clear c21b0
          try clear c22
          try clear c22b0
          try clear p23
          try clear q23
          try clear hx23
          try clear p23
          try clear q23
          obtain ⟨kq, x63_23, rfl, HA, HJ23, BK637, HB⟩ := hcut
          cases kq with
          | zero => exact absurd HA.out (by simp [environref03_real.j2])
          | succ kj23 =>
           have H := HA.out
           clear HA
           simp only [environref03_real.j2] at H
           have HC28 := Aside0.mk H
           clear H
           go_upto_if 63 with (fail)
           go_cut [13] (fun v13 wc => ∃ (kq : Nat) (x13_27 : Int), v13 = .int .i64 x13_27 ∧ Aside0 (environref03_real.j3 kq a0 a1 a2 x8_1 (wrap64 (-x9_1)) x13_27 ((bt a2 (ji20)) == 45) = some (r1, r2, r3)) ∧ Aside0 (kq ≤ kj23) ∧ Aside0 (wc.heap[gb637]? = some (.cells #[.int .i64 0, .int .i64 0] 23 (0, 0))) ∧ Aside0 (Below w.heap.size w wc))
           case first =>
            have H := HC28.out
            clear HC28
            by_cases c29 : x63_23 = true
            ·subst c29
             rw [if_pos rfl] at H
             have H' := Aside0.mk H
             clear H
             go_wp2
             go_meet
             case rel => exact ⟨_, (wrap64 (ji20 + 1)), (by first | rfl | (simp; done) | (simp only [← hji20] <;> (first | rfl | simp)) | (simp [*]; done)), H', ⟨by have := HK1.out; have := HJ4.out; have := HJ23.out; first | omega | exact Nat.le_refl _⟩, ⟨by (with_reducible repeat (first | refine blk_drewN ?_ _ | refine blk_drew ?_ | refine blk_alloc ?_ _)); exact BK637.out⟩, ⟨bw HB⟩⟩
            ·replace c29 := Bool.eq_false_iff.mpr c29
             subst c29
             rw [if_neg (show ¬ (false = true) by decide)] at H
             have H' := Aside0.mk H
             clear H
             go_wp2
             go_meet
             case rel => exact ⟨_, (ji20), (by first | rfl | (simp; done) | (simp only [← hji20] <;> (first | rfl | simp)) | (simp [*]; done)), H', ⟨by have := HK1.out; have := HJ4.out; have := HJ23.out; first | omega | exact Nat.le_refl _⟩, ⟨by (with_reducible repeat (first | refine blk_drewN ?_ _ | refine blk_drew ?_ | refine blk_alloc ?_ _)); exact BK637.out⟩, ⟨bw HB⟩⟩
           case rest =>
            clear HC28
            try clear c9
            try clear c19
            try clear c19b0
            try clear c21
            try clear c21b0
            try clear c22
            try clear c22b0
            try clear p23
            try clear q23
            try clear hx23
            try clear p23
            try clear q23
            obtain ⟨kq, x13_27, rfl, HA, HJ27, BK637, HB⟩ := hcut
            cases kq with
            | zero => exact absurd HA.out (by simp [environref03_real.j3])
            | succ kj27 =>
             have H := HA.out
             clear HA
             simp only [environref03_real.j3] at H
             by_cases c30 : 0 ≤ x13_27
             ·rw [if_pos c30] at H
              have c30b0 := eq_true c30
              have c30b1 := decide_eq_true c30
              clear c30
              by_cases c31 : x13_27 ≤ (a2.size : Int)
              ·rw [if_pos c31] at H
               have c31b0 := eq_true c31
               have c31b1 := decide_eq_true c31
               clear c31
               replace H := Option.bind_eq_some_iff.mp H
               obtain ⟨t638, A320, H⟩ := H
               try dsimp only at H
               have A32 := Aside0.mk A320
               clear A320
               have HC33 := Aside0.mk H
               clear H
               go_upto_if 71 with (first | (refine gc 100 ?_; refine gl (some 69) Tryz.func100 #[.string (a2.extract (x13_27 : Int).toNat a2.size)] ?_; (with_reducible refine (environref03_value.calls kj27 (a2.extract (x13_27 : Int).toNat a2.size) t638 _ A32.out).mono ?_); rintro e w34 ⟨rfl, hb⟩; refine ⟨_, rfl, ?_⟩; replace BK637 := Aside0.mk (bb BK637 hb); replace HB := bt_ HB hb; (try clear hb)))
               (try simp only [sx])
               go_cut [15] (fun v15 wc => ∃ (kq : Nat) (x15_32 : Int), v15 = .int .i64 x15_32 ∧ Aside0 (environref03_real.j4 kq a0 a1 x8_1 (wrap64 (-x9_1)) ((bt a2 (ji20)) == 45) x15_32 = some (r1, r2, r3)) ∧ Aside0 (kq ≤ kj27) ∧ Aside0 (wc.heap[gb637]? = some (.cells #[.int .i64 0, .int .i64 0] 23 (0, 0))) ∧ Aside0 (Below w.heap.size w wc))
               case first =>
                have H := HC33.out
                clear HC33
                by_cases c35 : t638 > 1000000000
                ·rw [if_pos c35] at H
                 have c35b0 := decide_eq_true c35
                 clear c35
                 (first | rw [c35b0] | (simp only [i64_w, i32_w]; rw [c35b0]) | skip)
                 have H' := Aside0.mk H
                 clear H
                 go_wp2
                 go_meet
                 case rel => exact ⟨_, (1000000000), q1, H', ⟨by have := HK1.out; have := HJ4.out; have := HJ23.out; have := HJ27.out; first | omega | exact Nat.le_refl _⟩, ⟨by (with_reducible repeat (first | refine blk_drewN ?_ _ | refine blk_drew ?_ | refine blk_alloc ?_ _)); exact BK637.out⟩, ⟨bw HB⟩⟩
                ·rw [if_neg c35] at H
                 have c35b0 := decide_eq_false c35
                 clear c35
                 (first | rw [c35b0] | (simp only [i64_w, i32_w]; rw [c35b0]) | skip)
                 have H' := Aside0.mk H
                 clear H
                 go_wp2
                 go_meet
                 case rel => exact ⟨_, (t638), q1, H', ⟨by have := HK1.out; have := HJ4.out; have := HJ23.out; have := HJ27.out; first | omega | exact Nat.le_refl _⟩, ⟨by (with_reducible repeat (first | refine blk_drewN ?_ _ | refine blk_drew ?_ | refine blk_alloc ?_ _)); exact BK637.out⟩, ⟨bw HB⟩⟩
               case rest =>
                clear HC33
                try clear c9
                try clear c19
                try clear c19b0
                try clear c21
                try clear c21b0
                try clear c22
                try clear c22b0
                try clear p23
                try clear q23
                try clear hx23
                try clear c30
                try clear c30b0
                try clear c30b1
                try clear c31
                try clear c31b0
                try clear c31b1
                try clear p23
                try clear q23
                obtain ⟨kq, x15_32, rfl, HA, HJ32, BK637, HB⟩ := hcut
                cases kq with
                | zero => exact absurd HA.out (by simp [environref03_real.j4])
                | succ kj32 =>
                 have H := HA.out
                 clear HA
                 simp only [environref03_real.j4] at H
                 by_cases c36 : ((bt a2 (ji20)) == 45) = true
                 ·rw [if_pos c36] at H
                  have c36b0 : ((bt a2 (ji20)) == 45) = true := c36
                  (try (have c36b1 : decide ((bt a2 (ji20)) = 45) = true := by simpa using c36))
                  (try (have c36b2 : ((bt a2 (ji20)) == 45) = true := by simpa using c36))
                  clear c36
                  replace H := Option.bind_eq_some_iff.mp H
                  obtain ⟨t639, A370, H⟩ := H
                  try dsimp only at H
                  have A37 := Aside0.mk A370
                  clear A370
                  replace H := Option.bind_eq_some_iff.mp H
                  obtain ⟨⟨t642, t643, t644⟩, A380, H⟩ := H
                  try dsimp only at H
                  have A38 := Aside0.mk A380
                  clear A380
                  simp only [Option.some.injEq, Prod.mk.injEq] at H
                  obtain ⟨rfl, rfl, rfl⟩ := H
                  go_wp2_with (first | (refine gc 103 ?_; refine gl (some 81) Tryz.func103 #[.string x8_1] ?_; (with_reducible refine (environref03_nat.calls kj32 x8_1 t639 _ A37.out).mono ?_); rintro e w39 ⟨v640, rfl, ho0, hb⟩; refine ⟨_, rfl, ?_⟩; have HO641 := Aside0.mk (Kd.R_lower ho0 (below_size (bw HB))); replace BK637 := Aside0.mk (bb BK637 hb); replace HB := bt_ HB hb; (try clear hb); (try clear ho0); obtain ⟨Ao40, co40, eo40⟩ := Kd.R_slice HO641.out; subst eo40) | (refine gc 102 ?_; refine gl (some 84) Tryz.func102 #[.int .i64 a0, .int .i64 0, .agg #[.bool a1, .slice Ao40 t639.length co40, .int .i64 (wrap64 ((wrap64 (-x9_1)) + (wrap64 (-x15_32)))), .bool false]] ?_; (with_reducible refine (environref02_Rounded.calls kj32 a0 0 a1 (fun k_ => some k_ = (.slice Ao40 t639.length co40 : Value).ownBlock) _ _ t639 (wrap64 ((wrap64 (-x9_1)) + (wrap64 (-x15_32)))) false t642 t643 t644 _ ?side1 A38.out).mono ?_); (case side1 => exact Kd.R_V (Kd.R_tight rfl (Kd.R_types (HO641.out) BK637.out (by decide)))); rintro e w41 ⟨rfl, hb⟩; refine ⟨_, rfl, ?_⟩; replace HO641 := Aside0.mk (Kd.R_below (by (with_reducible repeat (first | apply Kd.R_alloc | apply Kd.R_drewN | apply Kd.R_drew)); exact HO641.out) hb); replace BK637 := Aside0.mk (bb BK637 hb); replace HB := bt_ HB hb; (try clear hb); obtain ⟨hcz42_0, hcz42_1, hfz42_0, hfz42_1⟩ := cf2 BK637))
                  refine bodyPost_ret (results_ct rfl _ _ gb637 23 #[.int .i64 t642, .int .i64 t643] (0, 0) _ rfl (by (with_reducible repeat (first | refine blk_drewN ?_ _ | refine blk_drew ?_ | refine blk_alloc ?_ _)); refine blk_put (cs := #[.int .i64 t642, .int .i64 0]) ?_ 1 _ rfl; (with_reducible repeat (first | refine blk_drewN ?_ _ | refine blk_drew ?_ | refine blk_alloc ?_ _)); refine blk_put (cs := #[.int .i64 0, .int .i64 0]) ?_ 0 _ rfl; (with_reducible repeat (first | refine blk_drewN ?_ _ | refine blk_drew ?_ | refine blk_alloc ?_ _)); exact BK637.out) Tryz.underlying23 rfl (by kernel_rfl)) rfl ?_
                  exact ⟨by first | rfl | (simp [errW_none, errW_some] <;> rfl) | (simp only [← hji20]; first | rfl | (simp [errW_none, errW_some] <;> rfl)) | (simp [*, errW_none, errW_some] <;> rfl), bw HB⟩
                 ·rw [if_neg c36] at H
                  have c36b0 : ((bt a2 (ji20)) == 45) = false := by simpa using c36
                  (try (have c36b1 : decide ((bt a2 (ji20)) = 45) = false := by simpa using c36))
                  (try (have c36b2 : ((bt a2 (ji20)) == 45) = false := by simpa using c36))
                  (try (have c36b3 : ¬ ((bt a2 (ji20)) = 45) := by simpa using c36))
                  clear c36
                  replace H := Option.bind_eq_some_iff.mp H
                  obtain ⟨t645, A430, H⟩ := H
                  try dsimp only at H
                  have A43 := Aside0.mk A430
                  clear A430
                  replace H := Option.bind_eq_some_iff.mp H
                  obtain ⟨⟨t648, t649, t650⟩, A440, H⟩ := H
                  try dsimp only at H
                  have A44 := Aside0.mk A440
                  clear A440
                  simp only [Option.some.injEq, Prod.mk.injEq] at H
                  obtain ⟨rfl, rfl, rfl⟩ := H
                  go_wp2_with (first | (refine gc 103 ?_; refine gl (some 81) Tryz.func103 #[.string x8_1] ?_; (with_reducible refine (environref03_nat.calls kj32 x8_1 t645 _ A43.out).mono ?_); rintro e w45 ⟨v646, rfl, ho0, hb⟩; refine ⟨_, rfl, ?_⟩; have HO647 := Aside0.mk (Kd.R_lower ho0 (below_size (bw HB))); replace BK637 := Aside0.mk (bb BK637 hb); replace HB := bt_ HB hb; (try clear hb); (try clear ho0); obtain ⟨Ao46, co46, eo46⟩ := Kd.R_slice HO647.out; subst eo46) | (refine gc 102 ?_; refine gl (some 84) Tryz.func102 #[.int .i64 a0, .int .i64 0, .agg #[.bool a1, .slice Ao46 t645.length co46, .int .i64 (wrap64 ((wrap64 (-x9_1)) + x15_32)), .bool false]] ?_; (with_reducible refine (environref02_Rounded.calls kj32 a0 0 a1 (fun k_ => some k_ = (.slice Ao46 t645.length co46 : Value).ownBlock) _ _ t645 (wrap64 ((wrap64 (-x9_1)) + x15_32)) false t648 t649 t650 _ ?side1 A44.out).mono ?_); (case side1 => exact Kd.R_V (Kd.R_tight rfl (Kd.R_types (HO647.out) BK637.out (by decide)))); rintro e w47 ⟨rfl, hb⟩; refine ⟨_, rfl, ?_⟩; replace HO647 := Aside0.mk (Kd.R_below (by (with_reducible repeat (first | apply Kd.R_alloc | apply Kd.R_drewN | apply Kd.R_drew)); exact HO647.out) hb); replace BK637 := Aside0.mk (bb BK637 hb); replace HB := bt_ HB hb; (try clear hb); obtain ⟨hcz48_0, hcz48_1, hfz48_0, hfz48_1⟩ := cf2 BK637))
                  refine bodyPost_ret (results_ct rfl _ _ gb637 23 #[.int .i64 t648, .int .i64 t649] (0, 0) _ rfl (by (with_reducible repeat (first | refine blk_drewN ?_ _ | refine blk_drew ?_ | refine blk_alloc ?_ _)); refine blk_put (cs := #[.int .i64 t648, .int .i64 0]) ?_ 1 _ rfl; (with_reducible repeat (first | refine blk_drewN ?_ _ | refine blk_drew ?_ | refine blk_alloc ?_ _)); refine blk_put (cs := #[.int .i64 0, .int .i64 0]) ?_ 0 _ rfl; (with_reducible repeat (first | refine blk_drewN ?_ _ | refine blk_drew ?_ | refine blk_alloc ?_ _)); exact BK637.out) Tryz.underlying23 rfl (by kernel_rfl)) rfl ?_
                  exact ⟨by first | rfl | (simp [errW_none, errW_some] <;> rfl) | (simp only [← hji20]; first | rfl | (simp [errW_none, errW_some] <;> rfl)) | (simp [*, errW_none, errW_some] <;> rfl), bw HB⟩
              ·rw [if_neg c31] at H
               exact absurd H (by simp)
             ·rw [if_neg c30] at H
              exact absurd H (by simp)
        ·rw [if_neg c22] at H
         exact absurd H (by simp)
       ·rw [if_neg c21] at H
        exact absurd H (by simp)
      ·rw [if_neg c19] at H
       have c19b0 := decide_eq_false c19
       clear c19
       replace H := Option.bind_eq_some_iff.mp H
       obtain ⟨t651, A490, H⟩ := H
       try dsimp only at H
       have A49 := Aside0.mk A490
       clear A490
       replace H := Option.bind_eq_some_iff.mp H
       obtain ⟨⟨t654, t655, t656⟩, A500, H⟩ := H
       try dsimp only at H
       have A50 := Aside0.mk A500
       clear A500
       simp only [Option.some.injEq, Prod.mk.injEq] at H
       obtain ⟨rfl, rfl, rfl⟩ := H
       go_wp2_with (first | (refine gc 103 ?_; refine gl (some 81) Tryz.func103 #[.string x8_1] ?_; (with_reducible refine (environref03_nat.calls kj4 x8_1 t651 _ A49.out).mono ?_); rintro e w51 ⟨v652, rfl, ho0, hb⟩; refine ⟨_, rfl, ?_⟩; have HO653 := Aside0.mk (Kd.R_lower ho0 (below_size (bw HB))); replace BK637 := Aside0.mk (bb BK637 hb); replace HB := bt_ HB hb; (try clear hb); (try clear ho0); obtain ⟨Ao52, co52, eo52⟩ := Kd.R_slice HO653.out; subst eo52) | (refine gc 102 ?_; refine gl (some 84) Tryz.func102 #[.int .i64 a0, .int .i64 0, .agg #[.bool a1, .slice Ao52 t651.length co52, .int .i64 (wrap64 (-x9_1)), .bool false]] ?_; (with_reducible refine (environref02_Rounded.calls kj4 a0 0 a1 (fun k_ => some k_ = (.slice Ao52 t651.length co52 : Value).ownBlock) _ _ t651 (wrap64 (-x9_1)) false t654 t655 t656 _ ?side1 A50.out).mono ?_); (case side1 => exact Kd.R_V (Kd.R_tight rfl (Kd.R_types (HO653.out) BK637.out (by decide)))); rintro e w53 ⟨rfl, hb⟩; refine ⟨_, rfl, ?_⟩; replace HO653 := Aside0.mk (Kd.R_below (by (with_reducible repeat (first | apply Kd.R_alloc | apply Kd.R_drewN | apply Kd.R_drew)); exact HO653.out) hb); replace BK637 := Aside0.mk (bb BK637 hb); replace HB := bt_ HB hb; (try clear hb); obtain ⟨hcz54_0, hcz54_1, hfz54_0, hfz54_1⟩ := cf2 BK637))
       refine bodyPost_ret (results_ct rfl _ _ gb637 23 #[.int .i64 t654, .int .i64 t655] (0, 0) _ rfl (by (with_reducible repeat (first | refine blk_drewN ?_ _ | refine blk_drew ?_ | refine blk_alloc ?_ _)); refine blk_put (cs := #[.int .i64 t654, .int .i64 0]) ?_ 1 _ rfl; (with_reducible repeat (first | refine blk_drewN ?_ _ | refine blk_drew ?_ | refine blk_alloc ?_ _)); refine blk_put (cs := #[.int .i64 0, .int .i64 0]) ?_ 0 _ rfl; (with_reducible repeat (first | refine blk_drewN ?_ _ | refine blk_drew ?_ | refine blk_alloc ?_ _)); exact BK637.out) Tryz.underlying23 rfl (by kernel_rfl)) rfl ?_
       exact ⟨by first | rfl | (simp [errW_none, errW_some] <;> rfl) | (simp [*, errW_none, errW_some] <;> rfl), bw HB⟩

/-! ### environref03_ReadReal: function 21 -/
def environref03_ReadReal.f (k : Nat) (a0 : Int) (a1 : ByteArray) : Option (Int × Int × Int × Int) := (environref02_Digits.f a0).bind fun bt658 => (if bt658.2 = 0 then ((environref03_begin.f k a1).bind fun bt660 => (if bt660.2.2 = 0 then ((environref03_length.f k a1 bt660.1).bind fun t663 => (if t663 = 0 then (some (0, 0, bt660.1, 9)) else (if 0 ≤ bt660.1 then (if bt660.1 ≤ (wrap64 (bt660.1 + t663)) then (if (wrap64 (bt660.1 + t663)) ≤ (a1.size : Int) then ((environref03_real.f k a0 bt660.2.1 (a1.extract (bt660.1 : Int).toNat ((wrap64 (bt660.1 + t663)) : Int).toNat)).bind fun bt664 => (some (bt664.1, bt664.2.1, wrap64 (bt660.1 + t663), bt664.2.2))) else (none)) else (none)) else (none)))) else (some (0, 0, bt660.1, bt660.2.2)))) else (some (0, 0, 0, bt658.2)))
theorem environref03_ReadReal.mono : ∀ a0 a1 k, LeO (environref03_ReadReal.f k a0 a1) (environref03_ReadReal.f (k + 1) a0 a1) := by
 intro a0 a1 k
 unfold environref03_ReadReal.f
 repeat' first
   | (with_reducible exact environref03_begin.mono _ _)
   | (with_reducible exact environref03_length.mono _ _ _)
   | (with_reducible exact environref03_real.mono _ _ _ _)
   | (with_reducible exact LeO.refl _)
   | (with_reducible exact LeO.none _)
   | (with_reducible refine LeO.ite ?_ ?_)
   | (with_reducible refine LeO.bind ?_ (fun _ => ?_))
   | exact environref03_begin.mono _ _
   | exact environref03_length.mono _ _ _
   | exact environref03_real.mono _ _ _ _
   | exact LeO.none _
   | refine LeO.ite ?_ ?_
   | refine LeO.bind ?_ (fun _ => ?_)
set_option maxHeartbeats 8000000 in
set_option maxRecDepth 100000 in
theorem environref03_ReadReal.calls (k : Nat) (a0 : Int) (a1 : ByteArray) (r1 : Int) (r2 : Int) (r3 : Int) (r4 : Int) (w : World) (h : environref03_ReadReal.f k a0 a1 = some (r1, r2, r3, r4)) :
  Calls Tryz.prog 21 #[.int .i64 a0, .string a1] w fun e w' => e = .returned (.tuple #[.agg #[.int .i64 r1, .int .i64 r2], .int .i64 r3, .int .i64 r4]) ∧ Below w.heap.size w w' := by
 have hu23 := Tryz.underlying23
 have HB := Aside0.mk (Below.refl w.heap.size w)
 have H : ((environref02_Digits.f a0).bind fun bt658 => (if bt658.2 = 0 then ((environref03_begin.f k a1).bind fun bt660 => (if bt660.2.2 = 0 then ((environref03_length.f k a1 bt660.1).bind fun t663 => (if t663 = 0 then (some (0, 0, bt660.1, 9)) else (if 0 ≤ bt660.1 then (if bt660.1 ≤ (wrap64 (bt660.1 + t663)) then (if (wrap64 (bt660.1 + t663)) ≤ (a1.size : Int) then ((environref03_real.f k a0 bt660.2.1 (a1.extract (bt660.1 : Int).toNat ((wrap64 (bt660.1 + t663)) : Int).toNat)).bind fun bt664 => (some (bt664.1, bt664.2.1, wrap64 (bt660.1 + t663), bt664.2.2))) else (none)) else (none)) else (none)))) else (some (0, 0, bt660.1, bt660.2.2)))) else (some (0, 0, 0, bt658.2)))) = some (r1, r2, r3, r4) := h
 clear h
 replace H := Option.bind_eq_some_iff.mp H
 obtain ⟨⟨t658, t659⟩, A30, H⟩ := H
 try dsimp only at H
 have A3 := Aside0.mk A30
 clear A30
 by_cases c4 : t659 = 0
 ·rw [if_pos c4] at H
  have c4b0 := beq_iff_eq.mpr c4
  have c4b1 := bne_eq_false_iff_eq.mpr c4
  clear c4
  replace H := Option.bind_eq_some_iff.mp H
  obtain ⟨⟨t660, t661, t662⟩, A50, H⟩ := H
  try dsimp only at H
  have A5 := Aside0.mk A50
  clear A50
  by_cases c6 : t662 = 0
  ·rw [if_pos c6] at H
   have c6b0 := beq_iff_eq.mpr c6
   have c6b1 := bne_eq_false_iff_eq.mpr c6
   clear c6
   replace H := Option.bind_eq_some_iff.mp H
   obtain ⟨t663, A70, H⟩ := H
   try dsimp only at H
   have A7 := Aside0.mk A70
   clear A70
   by_cases c8 : t663 = 0
   ·rw [if_pos c8] at H
    have c8b0 := beq_iff_eq.mpr c8
    have c8b1 := bne_eq_false_iff_eq.mpr c8
    clear c8
    simp only [Option.some.injEq, Prod.mk.injEq] at H
    obtain ⟨rfl, rfl, rfl, rfl⟩ := H
    go_enter Tryz.func21, Tryz.ntmps21
    go_wp2_with (first | ((with_reducible refine gate_dst (N := 4) rfl ?_); refine box_event ?hg (N := 4) ?hd (cs := #[.int .i64 0, .int .i64 0]) (t := 23) ?hr ?_; (case hd => rfl); (case hg => rfl); (case hr => first | (go_simp; done) | (go_simp; rfl)); intro gb657 hg w9 hbox hb; have BK657 := Aside0.mk (hbox); have GW657 := Aside0.mk (bs HB hg : w.heap.size ≤ gb657); replace HB := bt_ HB hb; clear hb hbox hg) | (refine gc 25 ?_; refine gl (some 16) Tryz.func25 #[.int .i64 a0] ?_; (with_reducible refine (environref02_Digits.calls a0 t658 t659 _ A3.out).mono ?_); rintro e w' ⟨rfl, ⟨nd, rfl⟩⟩; refine ⟨_, rfl, ?_⟩; (try (rw [drewN_self w9]; generalize hq_ : World.drewN w9 _ = w9; have n0_ : Aside0 (w9.heap[gb657]? = some (.cells #[.int .i64 0, .int .i64 0] 23 (0, 0))) := ⟨by rw [← hq_]; exact (bk BK657)⟩; have n1_ : Aside0 (Below w.heap.size w w9) := ⟨by rw [← hq_]; exact (bw HB)⟩; clear BK657 HB hq_; have BK657 := n0_; have HB := n1_; clear n0_ n1_))) | (refine gc 65 ?_; refine gl (some 25) Tryz.func65 #[.string a1] ?_; (with_reducible refine (environref03_begin.calls k a1 t660 t661 t662 _ A5.out).mono ?_); rintro e w' ⟨rfl, ⟨nd, rfl⟩⟩; refine ⟨_, rfl, ?_⟩; (try (rw [drewN_self w9]; generalize hq_ : World.drewN w9 _ = w9; have n0_ : Aside0 (w9.heap[gb657]? = some (.cells #[.int .i64 0, .int .i64 0] 23 (0, 0))) := ⟨by rw [← hq_]; exact (bk BK657)⟩; have n1_ : Aside0 (Below w.heap.size w w9) := ⟨by rw [← hq_]; exact (bw HB)⟩; clear BK657 HB hq_; have BK657 := n0_; have HB := n1_; clear n0_ n1_))) | (refine gc 69 ?_; refine gl (some 36) Tryz.func69 #[.string a1, .int .i64 t660] ?_; (with_reducible refine (environref03_length.calls k a1 t660 t663 _ A7.out).mono ?_); rintro e w' ⟨rfl, ⟨nd, rfl⟩⟩; refine ⟨_, rfl, ?_⟩; (try (rw [drewN_self w9]; generalize hq_ : World.drewN w9 _ = w9; have n0_ : Aside0 (w9.heap[gb657]? = some (.cells #[.int .i64 0, .int .i64 0] 23 (0, 0))) := ⟨by rw [← hq_]; exact (bk BK657)⟩; have n1_ : Aside0 (Below w.heap.size w w9) := ⟨by rw [← hq_]; exact (bw HB)⟩; clear BK657 HB hq_; have BK657 := n0_; have HB := n1_; clear n0_ n1_)); obtain ⟨hcz10_0, hcz10_1, hfz10_0, hfz10_1⟩ := cf2 BK657))
    refine bodyPost_ret (results_ctt rfl _ _ gb657 23 #[.int .i64 0, .int .i64 0] (0, 0) _ rfl (by (with_reducible repeat (first | refine blk_drewN ?_ _ | refine blk_drew ?_ | refine blk_alloc ?_ _)); refine blk_put (cs := #[.int .i64 0, .int .i64 0]) ?_ 1 _ rfl; (with_reducible repeat (first | refine blk_drewN ?_ _ | refine blk_drew ?_ | refine blk_alloc ?_ _)); refine blk_put (cs := #[.int .i64 0, .int .i64 0]) ?_ 0 _ rfl; (with_reducible repeat (first | refine blk_drewN ?_ _ | refine blk_drew ?_ | refine blk_alloc ?_ _)); exact BK657.out) Tryz.underlying23 rfl (by kernel_rfl)) rfl ?_
    exact ⟨by first | rfl | (simp [errW_none, errW_some] <;> rfl) | (simp [*, errW_none, errW_some] <;> rfl), bw HB⟩
   ·rw [if_neg c8] at H
    have c8b0 := beq_eq_false_iff_ne.mpr c8
    have c8b1 := bne_iff_ne.mpr c8
    by_cases c11 : 0 ≤ t660
    ·rw [if_pos c11] at H
     have c11b0 := eq_true c11
     have c11b1 := decide_eq_true c11
     clear c11
     by_cases c12 : t660 ≤ (wrap64 (t660 + t663))
     ·rw [if_pos c12] at H
      have c12b0 := eq_true c12
      have c12b1 := decide_eq_true c12
      by_cases c13 : (wrap64 (t660 + t663)) ≤ (a1.size : Int)
      ·rw [if_pos c13] at H
       have c13b0 := eq_true c13
       have c13b1 := decide_eq_true c13
       replace H := Option.bind_eq_some_iff.mp H
       obtain ⟨⟨t664, t665, t666⟩, A140, H⟩ := H
       try dsimp only at H
       have A14 := Aside0.mk A140
       clear A140
       simp only [Option.some.injEq, Prod.mk.injEq] at H
       obtain ⟨rfl, rfl, rfl, rfl⟩ := H
       go_enter Tryz.func21, Tryz.ntmps21
       go_wp2_with (first | ((with_reducible refine gate_dst (N := 4) rfl ?_); refine box_event ?hg (N := 4) ?hd (cs := #[.int .i64 0, .int .i64 0]) (t := 23) ?hr ?_; (case hd => rfl); (case hg => rfl); (case hr => first | (go_simp; done) | (go_simp; rfl)); intro gb657 hg w15 hbox hb; have BK657 := Aside0.mk (hbox); have GW657 := Aside0.mk (bs HB hg : w.heap.size ≤ gb657); replace HB := bt_ HB hb; clear hb hbox hg) | (refine gc 25 ?_; refine gl (some 16) Tryz.func25 #[.int .i64 a0] ?_; (with_reducible refine (environref02_Digits.calls a0 t658 t659 _ A3.out).mono ?_); rintro e w' ⟨rfl, ⟨nd, rfl⟩⟩; refine ⟨_, rfl, ?_⟩; (try (rw [drewN_self w15]; generalize hq_ : World.drewN w15 _ = w15; have n0_ : Aside0 (w15.heap[gb657]? = some (.cells #[.int .i64 0, .int .i64 0] 23 (0, 0))) := ⟨by rw [← hq_]; exact (bk BK657)⟩; have n1_ : Aside0 (Below w.heap.size w w15) := ⟨by rw [← hq_]; exact (bw HB)⟩; clear BK657 HB hq_; have BK657 := n0_; have HB := n1_; clear n0_ n1_))) | (refine gc 65 ?_; refine gl (some 25) Tryz.func65 #[.string a1] ?_; (with_reducible refine (environref03_begin.calls k a1 t660 t661 t662 _ A5.out).mono ?_); rintro e w' ⟨rfl, ⟨nd, rfl⟩⟩; refine ⟨_, rfl, ?_⟩; (try (rw [drewN_self w15]; generalize hq_ : World.drewN w15 _ = w15; have n0_ : Aside0 (w15.heap[gb657]? = some (.cells #[.int .i64 0, .int .i64 0] 23 (0, 0))) := ⟨by rw [← hq_]; exact (bk BK657)⟩; have n1_ : Aside0 (Below w.heap.size w w15) := ⟨by rw [← hq_]; exact (bw HB)⟩; clear BK657 HB hq_; have BK657 := n0_; have HB := n1_; clear n0_ n1_))) | (refine gc 69 ?_; refine gl (some 36) Tryz.func69 #[.string a1, .int .i64 t660] ?_; (with_reducible refine (environref03_length.calls k a1 t660 t663 _ A7.out).mono ?_); rintro e w' ⟨rfl, ⟨nd, rfl⟩⟩; refine ⟨_, rfl, ?_⟩; (try (rw [drewN_self w15]; generalize hq_ : World.drewN w15 _ = w15; have n0_ : Aside0 (w15.heap[gb657]? = some (.cells #[.int .i64 0, .int .i64 0] 23 (0, 0))) := ⟨by rw [← hq_]; exact (bk BK657)⟩; have n1_ : Aside0 (Below w.heap.size w w15) := ⟨by rw [← hq_]; exact (bw HB)⟩; clear BK657 HB hq_; have BK657 := n0_; have HB := n1_; clear n0_ n1_))) | (refine gc 70 ?_; refine gl (some 50) Tryz.func70 #[.int .i64 a0, .bool t661, .string (a1.extract (t660 : Int).toNat ((wrap64 (t660 + t663)) : Int).toNat)] ?_; (with_reducible refine (environref03_real.calls k a0 t661 (a1.extract (t660 : Int).toNat ((wrap64 (t660 + t663)) : Int).toNat) t664 t665 t666 _ A14.out).mono ?_); rintro e w16 ⟨rfl, hb⟩; refine ⟨_, rfl, ?_⟩; replace BK657 := Aside0.mk (bb BK657 hb); replace HB := bt_ HB hb; (try clear hb)) | ((with_reducible refine gate_dst (N := 13) rfl ?_); refine box_event ?hg (N := 13) ?hd (cs := #[.int .i64 0, .int .i64 0]) (t := 23) ?hr ?_; (case hd => rfl); (case hg => rfl); (case hr => first | (go_simp; done) | (go_simp; rfl)); intro gb667 hg w17 hbox hb; have BK667 := Aside0.mk (hbox); have GW667 := Aside0.mk (bs HB hg : w.heap.size ≤ gb667); replace HB := bt_ HB hb; have NB657_667 := Aside0.mk (nl BK657 hg); have NB667_657 := Aside0.mk (ng BK657 hg); replace BK657 := Aside0.mk (bb BK657 hb); clear hb hbox hg; have hnb18 := NB667_657.out; have hnc18 := NB657_667.out; obtain ⟨hcz19_0, hcz19_1, hfz19_0, hfz19_1⟩ := cf2 BK667; obtain ⟨hcz20_0, hcz20_1, hfz20_0, hfz20_1⟩ := cf2 BK657))
       refine bodyPost_ret (results_ctt rfl _ _ gb657 23 #[.int .i64 t664, .int .i64 t665] (0, 0) _ rfl (by (with_reducible repeat (first | refine blk_drewN ?_ _ | refine blk_drew ?_ | refine blk_alloc ?_ _)); refine blk_put (cs := #[.int .i64 t664, .int .i64 0]) ?_ 1 _ rfl; (with_reducible repeat (first | refine blk_drewN ?_ _ | refine blk_drew ?_ | refine blk_alloc ?_ _)); refine blk_put (cs := #[.int .i64 0, .int .i64 0]) ?_ 0 _ rfl; (with_reducible repeat (first | refine blk_drewN ?_ _ | refine blk_drew ?_ | refine blk_alloc ?_ _)); refine blk_far ?_ NB657_667.out _; (with_reducible repeat (first | refine blk_drewN ?_ _ | refine blk_drew ?_ | refine blk_alloc ?_ _)); refine blk_far ?_ NB657_667.out _; (with_reducible repeat (first | refine blk_drewN ?_ _ | refine blk_drew ?_ | refine blk_alloc ?_ _)); exact BK657.out) Tryz.underlying23 rfl (by kernel_rfl)) rfl ?_
       exact ⟨by first | rfl | (simp [errW_none, errW_some] <;> rfl) | (simp [*, errW_none, errW_some] <;> rfl), bw HB⟩
      ·rw [if_neg c13] at H
       exact absurd H (by simp)
     ·rw [if_neg c12] at H
      exact absurd H (by simp)
    ·rw [if_neg c11] at H
     exact absurd H (by simp)
  ·rw [if_neg c6] at H
   have c6b0 := beq_eq_false_iff_ne.mpr c6
   have c6b1 := bne_iff_ne.mpr c6
   simp only [Option.some.injEq, Prod.mk.injEq] at H
   obtain ⟨rfl, rfl, rfl, rfl⟩ := H
   go_enter Tryz.func21, Tryz.ntmps21
   go_wp2_with (first | ((with_reducible refine gate_dst (N := 4) rfl ?_); refine box_event ?hg (N := 4) ?hd (cs := #[.int .i64 0, .int .i64 0]) (t := 23) ?hr ?_; (case hd => rfl); (case hg => rfl); (case hr => first | (go_simp; done) | (go_simp; rfl)); intro gb657 hg w21 hbox hb; have BK657 := Aside0.mk (hbox); have GW657 := Aside0.mk (bs HB hg : w.heap.size ≤ gb657); replace HB := bt_ HB hb; clear hb hbox hg) | (refine gc 25 ?_; refine gl (some 16) Tryz.func25 #[.int .i64 a0] ?_; (with_reducible refine (environref02_Digits.calls a0 t658 t659 _ A3.out).mono ?_); rintro e w' ⟨rfl, ⟨nd, rfl⟩⟩; refine ⟨_, rfl, ?_⟩; (try (rw [drewN_self w21]; generalize hq_ : World.drewN w21 _ = w21; have n0_ : Aside0 (w21.heap[gb657]? = some (.cells #[.int .i64 0, .int .i64 0] 23 (0, 0))) := ⟨by rw [← hq_]; exact (bk BK657)⟩; have n1_ : Aside0 (Below w.heap.size w w21) := ⟨by rw [← hq_]; exact (bw HB)⟩; clear BK657 HB hq_; have BK657 := n0_; have HB := n1_; clear n0_ n1_))) | (refine gc 65 ?_; refine gl (some 25) Tryz.func65 #[.string a1] ?_; (with_reducible refine (environref03_begin.calls k a1 t660 t661 t662 _ A5.out).mono ?_); rintro e w' ⟨rfl, ⟨nd, rfl⟩⟩; refine ⟨_, rfl, ?_⟩; (try (rw [drewN_self w21]; generalize hq_ : World.drewN w21 _ = w21; have n0_ : Aside0 (w21.heap[gb657]? = some (.cells #[.int .i64 0, .int .i64 0] 23 (0, 0))) := ⟨by rw [← hq_]; exact (bk BK657)⟩; have n1_ : Aside0 (Below w.heap.size w w21) := ⟨by rw [← hq_]; exact (bw HB)⟩; clear BK657 HB hq_; have BK657 := n0_; have HB := n1_; clear n0_ n1_)); obtain ⟨hcz22_0, hcz22_1, hfz22_0, hfz22_1⟩ := cf2 BK657))
   refine bodyPost_ret (results_ctt rfl _ _ gb657 23 #[.int .i64 0, .int .i64 0] (0, 0) _ rfl (by (with_reducible repeat (first | refine blk_drewN ?_ _ | refine blk_drew ?_ | refine blk_alloc ?_ _)); refine blk_put (cs := #[.int .i64 0, .int .i64 0]) ?_ 1 _ rfl; (with_reducible repeat (first | refine blk_drewN ?_ _ | refine blk_drew ?_ | refine blk_alloc ?_ _)); refine blk_put (cs := #[.int .i64 0, .int .i64 0]) ?_ 0 _ rfl; (with_reducible repeat (first | refine blk_drewN ?_ _ | refine blk_drew ?_ | refine blk_alloc ?_ _)); exact BK657.out) Tryz.underlying23 rfl (by kernel_rfl)) rfl ?_
   exact ⟨by first | rfl | (simp [errW_none, errW_some] <;> rfl) | (simp [*, errW_none, errW_some] <;> rfl), bw HB⟩
 ·rw [if_neg c4] at H
  have c4b0 := beq_eq_false_iff_ne.mpr c4
  have c4b1 := bne_iff_ne.mpr c4
  simp only [Option.some.injEq, Prod.mk.injEq] at H
  obtain ⟨rfl, rfl, rfl, rfl⟩ := H
  go_enter Tryz.func21, Tryz.ntmps21
  go_wp2_with (first | ((with_reducible refine gate_dst (N := 4) rfl ?_); refine box_event ?hg (N := 4) ?hd (cs := #[.int .i64 0, .int .i64 0]) (t := 23) ?hr ?_; (case hd => rfl); (case hg => rfl); (case hr => first | (go_simp; done) | (go_simp; rfl)); intro gb657 hg w23 hbox hb; have BK657 := Aside0.mk (hbox); have GW657 := Aside0.mk (bs HB hg : w.heap.size ≤ gb657); replace HB := bt_ HB hb; clear hb hbox hg) | (refine gc 25 ?_; refine gl (some 16) Tryz.func25 #[.int .i64 a0] ?_; (with_reducible refine (environref02_Digits.calls a0 t658 t659 _ A3.out).mono ?_); rintro e w' ⟨rfl, ⟨nd, rfl⟩⟩; refine ⟨_, rfl, ?_⟩; (try (rw [drewN_self w23]; generalize hq_ : World.drewN w23 _ = w23; have n0_ : Aside0 (w23.heap[gb657]? = some (.cells #[.int .i64 0, .int .i64 0] 23 (0, 0))) := ⟨by rw [← hq_]; exact (bk BK657)⟩; have n1_ : Aside0 (Below w.heap.size w w23) := ⟨by rw [← hq_]; exact (bw HB)⟩; clear BK657 HB hq_; have BK657 := n0_; have HB := n1_; clear n0_ n1_)); obtain ⟨hcz24_0, hcz24_1, hfz24_0, hfz24_1⟩ := cf2 BK657))
  refine bodyPost_ret (results_ctt rfl _ _ gb657 23 #[.int .i64 0, .int .i64 0] (0, 0) _ rfl (by (with_reducible repeat (first | refine blk_drewN ?_ _ | refine blk_drew ?_ | refine blk_alloc ?_ _)); refine blk_put (cs := #[.int .i64 0, .int .i64 0]) ?_ 1 _ rfl; (with_reducible repeat (first | refine blk_drewN ?_ _ | refine blk_drew ?_ | refine blk_alloc ?_ _)); refine blk_put (cs := #[.int .i64 0, .int .i64 0]) ?_ 0 _ rfl; (with_reducible repeat (first | refine blk_drewN ?_ _ | refine blk_drew ?_ | refine blk_alloc ?_ _)); exact BK657.out) Tryz.underlying23 rfl (by kernel_rfl)) rfl ?_
  exact ⟨by first | rfl | (simp [errW_none, errW_some] <;> rfl) | (simp [*, errW_none, errW_some] <;> rfl), bw HB⟩
end Go.Proofs.YtckbmniiecbalaaGreatDoor.PT
