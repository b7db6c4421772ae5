-- written by a program of this session out of the kit's print (its words and its form)
import Derived.Test.YtckbmniiecbalaaGreatDoorPTgSg
import Derived.Test.YtckbmniiecbalaaGreatDoorPTgSi
import Derived.Test.YtckbmniiecbalaaGreatDoorPTsq
import Derived.Test.YtckbmniiecbalaaGreatDoorPTx0
namespace Go.Proofs.YtckbmniiecbalaaGreatDoor.PT
open Go.RowKit Go.Proofs.YtckbmniiecbalaaGreatDoorW.PrintWords Go.Proofs.YtckbmniiecbalaaGreatDoorW.PrintLast Go.Proofs.YtckbmniiecbalaaGreatDoorW.PrintMore
attribute [local go_sem] max2_int min2_int max_two min_two max_three min_three max_four min_four   -- for this text's walks alone
set_option linter.unusedVariables false
set_option linter.unusedSimpArgs false

/-! ### environref03_ReadWord: function 23 -/
mutual
def environref03_ReadWord.l0 : Nat → ByteArray → Int → Int → Int → Int → Option (Int × Int × Int)
 | 0, _, _, _, _, _ => none
 | k + 1, x1, x7, x9, x10, x11 => if x11 < x7 then (if (wrap64 (x9 + x11)) = (x1.size : Int) then (environref03_ReadWord.j1 k x1 x7 x9 x10 x11 true) else (if 0 ≤ (wrap64 (x9 + x11)) then (if (wrap64 (x9 + x11)) < (x1.size : Int) then (if (bt x1 (wrap64 (x9 + x11))) = 84 then (environref03_ReadWord.j1 k x1 x7 x9 x10 x11 false) else (environref03_ReadWord.j1 k x1 x7 x9 x10 x11 ((bt x1 (wrap64 (x9 + x11))) != 70))) else (none)) else (none))) else (some (x10, wrap64 (x9 + x7), 0))
def environref03_ReadWord.j1 : Nat → ByteArray → Int → Int → Int → Int → Bool → Option (Int × Int × Int)
 | 0, _, _, _, _, _, _ => none
 | k + 1, x1, x7, x9, x10, x11, x53 => if x53 = true then (some (0, wrap64 (x9 + x11), 9)) else (if 0 ≤ (wrap64 (x9 + x11)) then (if (wrap64 (x9 + x11)) < (x1.size : Int) then (if (bt x1 (wrap64 (x9 + x11))) = 84 then (environref03_ReadWord.l0 k x1 x7 x9 (wrap64 ((wrap64 (2 * x10)) + 1)) (wrap64 (x11 + 1))) else (environref03_ReadWord.l0 k x1 x7 x9 (wrap64 (2 * x10)) (wrap64 (x11 + 1)))) else (none)) else (none))
end
def environref03_ReadWord.f (k : Nat) (a0 : Int) (a1 : ByteArray) : Option (Int × Int × Int) := (environref01_Width.f a0).bind fun bt673 => (if bt673.2 = 0 then ((environref03_skip.f k a1).bind fun t675 => (if t675 = (a1.size : Int) then (some (0, t675, 16)) else (environref03_ReadWord.l0 k a1 bt673.1 t675 0 0))) else (some (0, 0, bt673.2)))
theorem environref03_ReadWord.mono_l : ∀ k, (∀ y0 y1 y2 y3 y4, LeO (environref03_ReadWord.l0 k y0 y1 y2 y3 y4) (environref03_ReadWord.l0 (k + 1) y0 y1 y2 y3 y4)) ∧ (∀ y0 y1 y2 y3 y4 y5, LeO (environref03_ReadWord.j1 k y0 y1 y2 y3 y4 y5) (environref03_ReadWord.j1 (k + 1) y0 y1 y2 y3 y4 y5))
 | 0 => ⟨fun _ _ _ _ _ r h => by simp [environref03_ReadWord.l0] at h, fun _ _ _ _ _ _ r h => by simp [environref03_ReadWord.j1] at h⟩
 | k + 1 => by
  obtain ⟨ih0, ih1⟩ := environref03_ReadWord.mono_l k
  refine ⟨?_, ?_⟩ <;> intros <;> (first | unfold environref03_ReadWord.l0 | unfold environref03_ReadWord.j1) <;> (repeat' first
   | (with_reducible exact LeO.refl _)
   | exact ih0 _ _ _ _ _
   | exact ih1 _ _ _ _ _ _
   | exact environref03_skip.mono _ _
   | exact LeO.none _
   | refine LeO.ite ?_ ?_
   | refine LeO.bind ?_ (fun _ => ?_))
theorem environref03_ReadWord.mono : ∀ a0 a1 k, LeO (environref03_ReadWord.f k a0 a1) (environref03_ReadWord.f (k + 1) a0 a1) := by
 intro a0 a1 k
 obtain ⟨ih0, ih1⟩ := environref03_ReadWord.mono_l k
 unfold environref03_ReadWord.f
 repeat' first
   | (with_reducible exact LeO.refl _)
   | exact ih0 _ _ _ _ _
   | exact ih1 _ _ _ _ _ _
   | exact environref03_skip.mono _ _
   | exact LeO.none _
   | refine LeO.ite ?_ ?_
   | refine LeO.bind ?_ (fun _ => ?_)
set_option maxHeartbeats 8000000 in
set_option maxRecDepth 100000 in
theorem environref03_ReadWord.calls (k : Nat) (a0 : Int) (a1 : ByteArray) (r1 : Int) (r2 : Int) (r3 : Int) (w : World) (h : environref03_ReadWord.f k a0 a1 = some (r1, r2, r3)) :
  Calls Tryz.prog 23 #[.int .i64 a0, .string a1] w fun e w' => e = .returned (.tuple #[.int .i64 r1, .int .i64 r2, .int .i64 r3]) ∧ Drawn0 w w' := by
 have H : ((environref01_Width.f a0).bind fun bt673 => (if bt673.2 = 0 then ((environref03_skip.f k a1).bind fun t675 => (if t675 = (a1.size : Int) then (some (0, t675, 16)) else (environref03_ReadWord.l0 k a1 bt673.1 t675 0 0))) else (some (0, 0, bt673.2)))) = some (r1, r2, r3) := h
 clear h
 replace H := Option.bind_eq_some_iff.mp H
 obtain ⟨⟨t673, t674⟩, A30, H⟩ := H
 try dsimp only at H
 have A3 := Aside0.mk A30
 clear A30
 by_cases c4 : t674 = 0
 ·rw [if_pos c4] at H
  have c4b0 := beq_iff_eq.mpr c4
  have c4b1 := bne_eq_false_iff_eq.mpr c4
  clear c4
  replace H := Option.bind_eq_some_iff.mp H
  obtain ⟨t675, A50, H⟩ := H
  try dsimp only at H
  have A5 := Aside0.mk A50
  clear A50
  by_cases c6 : t675 = (a1.size : Int)
  ·rw [if_pos c6] at H
   have c6b0 := beq_iff_eq.mpr c6
   have c6b1 := bne_eq_false_iff_eq.mpr c6
   clear c6
   simp only [Option.some.injEq, Prod.mk.injEq] at H
   obtain ⟨rfl, rfl, rfl⟩ := H
   go_enter Tryz.func23, Tryz.ntmps23
   go_wp2_with (first | (refine gc 57 ?_; refine gl (some 14) Tryz.func57 #[.int .i64 a0] ?_; (with_reducible refine (environref01_Width.calls a0 t673 t674 _ A3.out).mono ?_); rintro e w' ⟨rfl, ⟨nd, rfl⟩⟩; refine ⟨_, rfl, ?_⟩) | (refine gc 71 ?_; refine gl (some 21) Tryz.func71 #[.string a1] ?_; (with_reducible refine (environref03_skip.calls k a1 t675 _ A5.out).mono ?_); rintro e w' ⟨rfl, ⟨nd, rfl⟩⟩; refine ⟨_, rfl, ?_⟩))
   go_ret3
   exact ⟨q1, dz⟩
  ·rw [if_neg c6] at H
   have c6b0 := beq_eq_false_iff_ne.mpr c6
   have c6b1 := bne_iff_ne.mpr c6
   have H' := Aside0.mk H
   clear H
   go_enter Tryz.func23, Tryz.ntmps23
   go_wp2_with (first | (refine gc 57 ?_; refine gl (some 14) Tryz.func57 #[.int .i64 a0] ?_; (with_reducible refine (environref01_Width.calls a0 t673 t674 _ A3.out).mono ?_); rintro e w' ⟨rfl, ⟨nd, rfl⟩⟩; refine ⟨_, rfl, ?_⟩) | (refine gc 71 ?_; refine gl (some 21) Tryz.func71 #[.string a1] ?_; (with_reducible refine (environref03_skip.calls k a1 t675 _ A5.out).mono ?_); rintro e w' ⟨rfl, ⟨nd, rfl⟩⟩; refine ⟨_, rfl, ?_⟩))
   go_loopg [10, 11] k (fun kq v10 v11 w' => ∃ (x10_1 : Int) (x11_1 : Int), v10 = .int .i64 x10_1 ∧ v11 = .int .i64 x11_1 ∧ Aside0 (environref03_ReadWord.l0 kq a1 t673 t675 x10_1 x11_1 = some (r1, r2, r3)) ∧ Aside0 (kq ≤ k) ∧ Drawn0 w w')
   case atStart => exact ⟨(0), (0), q1, q1, H', ⟨Nat.le_refl _⟩, dz⟩
   case round =>
    clear H'
    try clear c4
    try clear c4b0
    try clear c4b1
    try clear c6
    try clear c6b0
    try clear c6b1
    obtain ⟨x10_1, x11_1, rfl, rfl, HA, HK1, ⟨m1, rfl⟩⟩ := hrel
    cases gk with
    | zero => exact absurd HA.out (by simp [environref03_ReadWord.l0])
    | succ k1 =>
     have H := HA.out
     clear HA
     simp only [environref03_ReadWord.l0] at H
     by_cases c7 : x11_1 < t673
     ·rw [if_pos c7] at H
      have c7b0 := decide_eq_true c7
      clear c7
      have HC8 := Aside0.mk H
      clear H
      go_upto_region 11 with (fail)
      go_cut [53] (fun v53 wc => ∃ (kq : Nat) (x53_7 : Bool), v53 = .bool x53_7 ∧ Aside0 (environref03_ReadWord.j1 kq a1 t673 t675 x10_1 x11_1 x53_7 = some (r1, r2, r3)) ∧ Aside0 (kq ≤ k1) ∧ Drawn0 w wc)
      case first =>
       have H := HC8.out
       clear HC8
       by_cases c9 : (wrap64 (t675 + x11_1)) = (a1.size : Int)
       ·rw [if_pos c9] at H
        have c9b0 := beq_iff_eq.mpr c9
        have c9b1 := bne_eq_false_iff_eq.mpr c9
        clear c9
        (first | rw [c9b0] | (simp only [i64_w, i32_w]; rw [c9b0]) | skip)
        have H' := Aside0.mk H
        clear H
        go_wp2
        go_meet
        case rel => exact ⟨_, (true), q1, H', ⟨by have := HK1.out; first | omega | exact Nat.le_refl _⟩, dz⟩
       ·rw [if_neg c9] at H
        have c9b0 := beq_eq_false_iff_ne.mpr c9
        have c9b1 := bne_iff_ne.mpr c9
        (first | rw [c9b0] | (simp only [i64_w, i32_w]; rw [c9b0]) | skip)
        obtain ⟨ji10, hji10⟩ : ∃ j_ : Int, (wrap64 (t675 + x11_1)) = j_ := ⟨_, rfl⟩
        replace H : (if 0 ≤ (ji10) then (if (ji10) < (a1.size : Int) then (if (bt a1 (ji10)) = 84 then (environref03_ReadWord.j1 k1 a1 t673 t675 x10_1 x11_1 false) else (environref03_ReadWord.j1 k1 a1 t673 t675 x10_1 x11_1 ((bt a1 (ji10)) != 70))) else (none)) else (none)) = some (r1, r2, r3) := by first | (rw [hji10] at H; exact H) | (simp only [hji10] at H ⊢; exact H)
        (try rw [hji10] at c9b0)
        (try rw [hji10] at c9b1)
        have hji10w : (IntKind.i64.wrap (t675 + x11_1)) = ji10 := (i64_w _).trans hji10
        by_cases c11 : 0 ≤ (ji10)
        ·rw [if_pos c11] at H
         have c11b0 := decide_eq_true c11
         clear c11
         by_cases c12 : (ji10) < (a1.size : Int)
         ·rw [if_pos c12] at H
          have c12b0 := decide_eq_true c12
          clear c12
          by_cases c14 : (bt a1 (ji10)) = 84
          ·rw [if_pos c14] at H
           have c14b0 := beq_iff_eq.mpr c14
           have c14b1 := bne_eq_false_iff_eq.mpr c14
           clear c14
           have H' := Aside0.mk H
           clear H
           have p13 : 0 ≤ ((ji10) : Int) := od
           have q13 : (ji10) < (a1.size : Int) := od
           have hx13 := bt_at a1 (ji10)
           replace p13 := eq_true p13
           replace q13 := eq_true q13
           go_wp2
           go_meet
           case rel => exact ⟨_, (false), q1, H', ⟨by have := HK1.out; first | omega | exact Nat.le_refl _⟩, dz⟩
          ·rw [if_neg c14] at H
           have c14b0 := beq_eq_false_iff_ne.mpr c14
           have c14b1 := bne_iff_ne.mpr c14
           have H' := Aside0.mk H
           clear H
           have p13 : 0 ≤ ((ji10) : Int) := od
           have q13 : (ji10) < (a1.size : Int) := od
           have hx13 := bt_at a1 (ji10)
           replace p13 := eq_true p13
           replace q13 := eq_true q13
           have p15 : 0 ≤ ((ji10) : Int) := od
           have q15 : (ji10) < (a1.size : Int) := od
           have hx15 := bt_at a1 (ji10)
           replace p15 := eq_true p15
           replace q15 := eq_true q15
           go_wp2
           go_meet
           case rel => exact ⟨_, (((bt a1 (ji10)) != 70)), (by first | rfl | (simp; done) | (simp only [← hji10] <;> (first | rfl | simp)) | (simp [*]; done)), H', ⟨by have := HK1.out; first | omega | exact Nat.le_refl _⟩, dz⟩
         ·rw [if_neg c12] at H
          exact absurd H (by simp)
        ·rw [if_neg c11] at H
         exact absurd H (by simp)
      case rest =>
       clear HC8
       try clear c4
       try clear c4b0
       try clear c4b1
       try clear c6
       try clear c6b0
       try clear c6b1
       try clear c7
       try clear c7b0
       obtain ⟨kq, x53_7, rfl, HA, HJ7, ⟨mc7, rfl⟩⟩ := hcut
       cases kq with
       | zero => exact absurd HA.out (by simp [environref03_ReadWord.j1])
       | succ kj7 =>
        have H := HA.out
        clear HA
        simp only [environref03_ReadWord.j1] at H
        by_cases c16 : x53_7 = true
        ·subst c16
         rw [if_pos rfl] at H
         simp only [Option.some.injEq, Prod.mk.injEq] at H
         obtain ⟨rfl, rfl, rfl⟩ := H
         go_wp2
         go_ret3
         exact ⟨q1, dz⟩
        ·replace c16 := Bool.eq_false_iff.mpr c16
         subst c16
         rw [if_neg (show ¬ (false = true) by decide)] at H
         obtain ⟨ji17, hji17⟩ : ∃ j_ : Int, (wrap64 (t675 + x11_1)) = j_ := ⟨_, rfl⟩
         replace H : (if 0 ≤ (ji17) then (if (ji17) < (a1.size : Int) then (if (bt a1 (ji17)) = 84 then (environref03_ReadWord.l0 kj7 a1 t673 t675 (wrap64 ((wrap64 (2 * x10_1)) + 1)) (wrap64 (x11_1 + 1))) else (environref03_ReadWord.l0 kj7 a1 t673 t675 (wrap64 (2 * x10_1)) (wrap64 (x11_1 + 1)))) else (none)) else (none)) = some (r1, r2, r3) := by first | (rw [hji17] at H; exact H) | (simp only [hji17] at H ⊢; exact H)
         have hji17w : (IntKind.i64.wrap (t675 + x11_1)) = ji17 := (i64_w _).trans hji17
         by_cases c18 : 0 ≤ (ji17)
         ·rw [if_pos c18] at H
          have c18b0 := decide_eq_true c18
          clear c18
          by_cases c19 : (ji17) < (a1.size : Int)
          ·rw [if_pos c19] at H
           have c19b0 := decide_eq_true c19
           clear c19
           by_cases c21 : (bt a1 (ji17)) = 84
           ·rw [if_pos c21] at H
            have c21b0 := beq_iff_eq.mpr c21
            have c21b1 := bne_eq_false_iff_eq.mpr c21
            clear c21
            have H' := Aside0.mk H
            clear H
            have p20 : 0 ≤ ((ji17) : Int) := od
            have q20 : (ji17) < (a1.size : Int) := od
            have hx20 := bt_at a1 (ji17)
            replace p20 := eq_true p20
            replace q20 := eq_true q20
            go_wp2
            go_roundg kj7
            case measure => have := HK1.out; have := HJ7.out; omega
            case rel => exact ⟨(wrap64 ((wrap64 (2 * x10_1)) + 1)), (wrap64 (x11_1 + 1)), q1, q1, H', ⟨by have := HK1.out; have := HJ7.out; omega⟩, dz⟩
           ·rw [if_neg c21] at H
            have c21b0 := beq_eq_false_iff_ne.mpr c21
            have c21b1 := bne_iff_ne.mpr c21
            have H' := Aside0.mk H
            clear H
            have p20 : 0 ≤ ((ji17) : Int) := od
            have q20 : (ji17) < (a1.size : Int) := od
            have hx20 := bt_at a1 (ji17)
            replace p20 := eq_true p20
            replace q20 := eq_true q20
            go_wp2
            go_roundg kj7
            case measure => have := HK1.out; have := HJ7.out; omega
            case rel => exact ⟨(wrap64 (2 * x10_1)), (wrap64 (x11_1 + 1)), q1, q1, H', ⟨by have := HK1.out; have := HJ7.out; omega⟩, dz⟩
          ·rw [if_neg c19] at H
           exact absurd H (by simp)
         ·rw [if_neg c18] at H
          exact absurd H (by simp)
     ·rw [if_neg c7] at H
      have c7b0 := decide_eq_false c7
      clear c7
      simp only [Option.some.injEq, Prod.mk.injEq] at H
      obtain ⟨rfl, rfl, rfl⟩ := H
      go_wp2
      go_ret3
      exact ⟨q1, dz⟩
 ·rw [if_neg c4] at H
  have c4b0 := beq_eq_false_iff_ne.mpr c4
  have c4b1 := bne_iff_ne.mpr c4
  simp only [Option.some.injEq, Prod.mk.injEq] at H
  obtain ⟨rfl, rfl, rfl⟩ := H
  go_enter Tryz.func23, Tryz.ntmps23
  go_wp2_with (first | (refine gc 57 ?_; refine gl (some 14) Tryz.func57 #[.int .i64 a0] ?_; (with_reducible refine (environref01_Width.calls a0 t673 t674 _ A3.out).mono ?_); rintro e w' ⟨rfl, ⟨nd, rfl⟩⟩; refine ⟨_, rfl, ?_⟩))
  go_ret3
  exact ⟨q1, dz⟩
end Go.Proofs.YtckbmniiecbalaaGreatDoor.PT
