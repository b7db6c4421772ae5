-- written by a program of this session out of the kit's print (its words and its form)
import Derived.Test.YtckbmniiecbalaaGreatDoorPTsq
import Derived.Test.YtckbmniiecbalaaGreatDoorPTx0
namespace Go.Proofs.YtckbmniiecbalaaGreatDoor.PT
open Go.RowKit Go.Proofs.YtckbmniiecbalaaGreatDoorW.PrintWords Go.Proofs.YtckbmniiecbalaaGreatDoorW.PrintLast Go.Proofs.YtckbmniiecbalaaGreatDoorW.PrintMore
attribute [local go_sem] max2_int min2_int max_two min_two max_three min_three max_four min_four   -- for this text's walks alone
set_option linter.unusedVariables false
set_option linter.unusedSimpArgs false

/-! ### environref01_Max: function 64 -/
def environref01_Max.f (a0 : Int) : Option (Int × Int) := if a0 = (-1) then (some (32767, 0)) else (if a0 = 0 then (some (2147483647, 0)) else (if a0 = 1 then (some (999999999999999999, 0)) else (some (0, 1))))
set_option maxHeartbeats 8000000 in
set_option maxRecDepth 100000 in
theorem environref01_Max.calls (a0 : Int) (r1 : Int) (r2 : Int) (w : World) (h : environref01_Max.f a0 = some (r1, r2)) :
  Calls Tryz.prog 64 #[.int .i64 a0] w fun e w' => e = .returned (.tuple #[.int .i64 r1, .int .i64 r2]) ∧ Drawn0 w w' := by
 have H : (if a0 = (-1) then (some (32767, 0)) else (if a0 = 0 then (some (2147483647, 0)) else (if a0 = 1 then (some (999999999999999999, 0)) else (some (0, 1))))) = some (r1, r2) := h
 clear h
 by_cases c2 : a0 = (-1)
 ·rw [if_pos c2] at H
  have c2b0 := beq_iff_eq.mpr c2
  have c2b1 := bne_eq_false_iff_eq.mpr c2
  clear c2
  simp only [Option.some.injEq, Prod.mk.injEq] at H
  obtain ⟨rfl, rfl⟩ := H
  go_enter Tryz.func64, Tryz.ntmps64
  go_wp2
  go_ret2
  exact ⟨q1, dz⟩
 ·rw [if_neg c2] at H
  have c2b0 := beq_eq_false_iff_ne.mpr c2
  have c2b1 := bne_iff_ne.mpr c2
  by_cases c3 : a0 = 0
  ·rw [if_pos c3] at H
   have c3b0 := beq_iff_eq.mpr c3
   have c3b1 := bne_eq_false_iff_eq.mpr c3
   clear c3
   simp only [Option.some.injEq, Prod.mk.injEq] at H
   obtain ⟨rfl, rfl⟩ := H
   go_enter Tryz.func64, Tryz.ntmps64
   go_wp2
   go_ret2
   exact ⟨q1, dz⟩
  ·rw [if_neg c3] at H
   have c3b0 := beq_eq_false_iff_ne.mpr c3
   have c3b1 := bne_iff_ne.mpr c3
   by_cases c4 : a0 = 1
   ·rw [if_pos c4] at H
    have c4b0 := beq_iff_eq.mpr c4
    have c4b1 := bne_eq_false_iff_eq.mpr c4
    clear c4
    simp only [Option.some.injEq, Prod.mk.injEq] at H
    obtain ⟨rfl, rfl⟩ := H
    go_enter Tryz.func64, Tryz.ntmps64
    go_wp2
    go_ret2
    exact ⟨q1, dz⟩
   ·rw [if_neg c4] at H
    have c4b0 := beq_eq_false_iff_ne.mpr c4
    have c4b1 := bne_iff_ne.mpr c4
    simp only [Option.some.injEq, Prod.mk.injEq] at H
    obtain ⟨rfl, rfl⟩ := H
    go_enter Tryz.func64, Tryz.ntmps64
    go_wp2
    go_ret2
    exact ⟨q1, dz⟩

/-! ### environref03_skip: function 71 -/
def environref03_skip.l0 : Nat → ByteArray → Int → Option (Int)
 | 0, _, _ => none
 | k + 1, x0, x3 => if x3 < (x0.size : Int) then (if 0 ≤ x3 then (if (bt x0 x3) = 32 then (environref03_skip.l0 k x0 (wrap64 (x3 + 1))) else (if (bt x0 x3) = 9 then (environref03_skip.l0 k x0 (wrap64 (x3 + 1))) else (if (bt x0 x3) = 10 then (environref03_skip.l0 k x0 (wrap64 (x3 + 1))) else (if (bt x0 x3) = 12 then (environref03_skip.l0 k x0 (wrap64 (x3 + 1))) else (some x3))))) else (none)) else (some x3)
def environref03_skip.f (k : Nat) (a0 : ByteArray) : Option (Int) := environref03_skip.l0 k a0 0
theorem environref03_skip.mono_l : ∀ k, (∀ y0 y1, LeO (environref03_skip.l0 k y0 y1) (environref03_skip.l0 (k + 1) y0 y1))
 | 0 => fun _ _ r h => by simp [environref03_skip.l0] at h
 | k + 1 => by
  have ih0 := environref03_skip.mono_l k
  ·intro y0 y1
   unfold environref03_skip.l0
   repeat' first
   | (with_reducible exact LeO.refl _)
   | exact ih0 _ _
   | exact LeO.none _
   | refine LeO.ite ?_ ?_
   | refine LeO.bind ?_ (fun _ => ?_)
theorem environref03_skip.mono : ∀ a0 k, LeO (environref03_skip.f k a0) (environref03_skip.f (k + 1) a0) := by
 intro a0 k
 have ih0 := environref03_skip.mono_l k
 unfold environref03_skip.f
 repeat' first
   | (with_reducible exact LeO.refl _)
   | exact ih0 _ _
   | exact LeO.none _
   | refine LeO.ite ?_ ?_
   | refine LeO.bind ?_ (fun _ => ?_)
set_option maxHeartbeats 8000000 in
set_option maxRecDepth 100000 in
theorem environref03_skip.calls (k : Nat) (a0 : ByteArray) (r : Int) (w : World) (h : environref03_skip.f k a0 = some r) :
  Calls Tryz.prog 71 #[.string a0] w fun e w' => e = .returned (.int .i64 r) ∧ Drawn0 w w' := by
 have H : (environref03_skip.l0 k a0 0) = some r := h
 clear h
 have H' := Aside0.mk H
 clear H
 go_enter Tryz.func71, Tryz.ntmps71
 go_wp2
 go_loopg [3] k (fun kq v3 w' => ∃ (x3_1 : Int), v3 = .int .i64 x3_1 ∧ Aside0 (environref03_skip.l0 kq a0 x3_1 = some r) ∧ Aside0 (kq ≤ k) ∧ Drawn0 w w')
 case atStart => exact ⟨(0), q1, H', ⟨Nat.le_refl _⟩, dz⟩
 case round =>
  clear H'
  obtain ⟨x3_1, rfl, HA, HK1, ⟨m1, rfl⟩⟩ := hrel
  cases gk with
  | zero => exact absurd HA.out (by simp [environref03_skip.l0])
  | succ k1 =>
   have H := HA.out
   clear HA
   simp only [environref03_skip.l0] at H
   by_cases c2 : x3_1 < (a0.size : Int)
   ·rw [if_pos c2] at H
    have c2b0 := decide_eq_true c2
    clear c2
    by_cases c3 : 0 ≤ x3_1
    ·rw [if_pos c3] at H
     have c3b0 := decide_eq_true c3
     clear c3
     by_cases c5 : (bt a0 x3_1) = 32
     ·rw [if_pos c5] at H
      have c5b0 := beq_iff_eq.mpr c5
      have c5b1 := bne_eq_false_iff_eq.mpr c5
      clear c5
      have H' := Aside0.mk H
      clear H
      have p4 : 0 ≤ (x3_1 : Int) := od
      have q4 : x3_1 < (a0.size : Int) := od
      have hx4 := bt_at a0 x3_1
      replace p4 := eq_true p4
      replace q4 := eq_true q4
      go_wp2
      go_roundg k1
      case measure => have := HK1.out; omega
      case rel => exact ⟨(wrap64 (x3_1 + 1)), q1, H', ⟨by have := HK1.out; omega⟩, dz⟩
     ·rw [if_neg c5] at H
      have c5b0 := beq_eq_false_iff_ne.mpr c5
      have c5b1 := bne_iff_ne.mpr c5
      by_cases c7 : (bt a0 x3_1) = 9
      ·rw [if_pos c7] at H
       have c7b0 := beq_iff_eq.mpr c7
       have c7b1 := bne_eq_false_iff_eq.mpr c7
       clear c7
       have H' := Aside0.mk H
       clear H
       have p4 : 0 ≤ (x3_1 : Int) := od
       have q4 : x3_1 < (a0.size : Int) := od
       have hx4 := bt_at a0 x3_1
       replace p4 := eq_true p4
       replace q4 := eq_true q4
       have p6 : 0 ≤ (x3_1 : Int) := od
       have q6 : x3_1 < (a0.size : Int) := od
       have hx6 := bt_at a0 x3_1
       replace p6 := eq_true p6
       replace q6 := eq_true q6
       go_wp2
       go_roundg k1
       case measure => have := HK1.out; omega
       case rel => exact ⟨(wrap64 (x3_1 + 1)), q1, H', ⟨by have := HK1.out; omega⟩, dz⟩
      ·rw [if_neg c7] at H
       have c7b0 := beq_eq_false_iff_ne.mpr c7
       have c7b1 := bne_iff_ne.mpr c7
       by_cases c9 : (bt a0 x3_1) = 10
       ·rw [if_pos c9] at H
        have c9b0 := beq_iff_eq.mpr c9
        have c9b1 := bne_eq_false_iff_eq.mpr c9
        clear c9
        have H' := Aside0.mk H
        clear H
        have p4 : 0 ≤ (x3_1 : Int) := od
        have q4 : x3_1 < (a0.size : Int) := od
        have hx4 := bt_at a0 x3_1
        replace p4 := eq_true p4
        replace q4 := eq_true q4
        have p6 : 0 ≤ (x3_1 : Int) := od
        have q6 : x3_1 < (a0.size : Int) := od
        have hx6 := bt_at a0 x3_1
        replace p6 := eq_true p6
        replace q6 := eq_true q6
        have p8 : 0 ≤ (x3_1 : Int) := od
        have q8 : x3_1 < (a0.size : Int) := od
        have hx8 := bt_at a0 x3_1
        replace p8 := eq_true p8
        replace q8 := eq_true q8
        go_wp2
        go_roundg k1
        case measure => have := HK1.out; omega
        case rel => exact ⟨(wrap64 (x3_1 + 1)), q1, H', ⟨by have := HK1.out; omega⟩, dz⟩
       ·rw [if_neg c9] at H
        have c9b0 := beq_eq_false_iff_ne.mpr c9
        have c9b1 := bne_iff_ne.mpr c9
        by_cases c11 : (bt a0 x3_1) = 12
        ·rw [if_pos c11] at H
         have c11b0 := beq_iff_eq.mpr c11
         have c11b1 := bne_eq_false_iff_eq.mpr c11
         clear c11
         have H' := Aside0.mk H
         clear H
         have p4 : 0 ≤ (x3_1 : Int) := od
         have q4 : x3_1 < (a0.size : Int) := od
         have hx4 := bt_at a0 x3_1
         replace p4 := eq_true p4
         replace q4 := eq_true q4
         have p6 : 0 ≤ (x3_1 : Int) := od
         have q6 : x3_1 < (a0.size : Int) := od
         have hx6 := bt_at a0 x3_1
         replace p6 := eq_true p6
         replace q6 := eq_true q6
         have p8 : 0 ≤ (x3_1 : Int) := od
         have q8 : x3_1 < (a0.size : Int) := od
         have hx8 := bt_at a0 x3_1
         replace p8 := eq_true p8
         replace q8 := eq_true q8
         have p10 : 0 ≤ (x3_1 : Int) := od
         have q10 : x3_1 < (a0.size : Int) := od
         have hx10 := bt_at a0 x3_1
         replace p10 := eq_true p10
         replace q10 := eq_true q10
         go_wp2
         go_roundg k1
         case measure => have := HK1.out; omega
         case rel => exact ⟨(wrap64 (x3_1 + 1)), q1, H', ⟨by have := HK1.out; omega⟩, dz⟩
        ·rw [if_neg c11] at H
         have c11b0 := beq_eq_false_iff_ne.mpr c11
         have c11b1 := bne_iff_ne.mpr c11
         obtain rfl := Option.some.inj H
         have p4 : 0 ≤ (x3_1 : Int) := od
         have q4 : x3_1 < (a0.size : Int) := od
         have hx4 := bt_at a0 x3_1
         replace p4 := eq_true p4
         replace q4 := eq_true q4
         have p6 : 0 ≤ (x3_1 : Int) := od
         have q6 : x3_1 < (a0.size : Int) := od
         have hx6 := bt_at a0 x3_1
         replace p6 := eq_true p6
         replace q6 := eq_true q6
         have p8 : 0 ≤ (x3_1 : Int) := od
         have q8 : x3_1 < (a0.size : Int) := od
         have hx8 := bt_at a0 x3_1
         replace p8 := eq_true p8
         replace q8 := eq_true q8
         have p10 : 0 ≤ (x3_1 : Int) := od
         have q10 : x3_1 < (a0.size : Int) := od
         have hx10 := bt_at a0 x3_1
         replace p10 := eq_true p10
         replace q10 := eq_true q10
         go_wp2
         go_ret
         exact ⟨q1, dz⟩
    ·rw [if_neg c3] at H
     exact absurd H (by simp)
   ·rw [if_neg c2] at H
    have c2b0 := decide_eq_false c2
    clear c2
    obtain rfl := Option.some.inj H
    go_wp2
    go_ret
    exact ⟨q1, dz⟩

/-! ### environref03_begin: function 65 -/
def environref03_begin.f (k : Nat) (a0 : ByteArray) : Option (Int × Bool × Int) := (environref03_skip.f k a0).bind fun t497 => (if t497 = (a0.size : Int) then (some (t497, false, 16)) else (if 0 ≤ t497 then (if t497 < (a0.size : Int) then (if (bt a0 t497) = 43 then (some (wrap64 (t497 + 1), ((bt a0 t497) == 45), 0)) else (if (bt a0 t497) = 45 then (some (wrap64 (t497 + 1), ((bt a0 t497) == 45), 0)) else (some (t497, false, 0)))) else (none)) else (none)))
theorem environref03_begin.mono : ∀ a0 k, LeO (environref03_begin.f k a0) (environref03_begin.f (k + 1) a0) := by
 intro a0 k
 unfold environref03_begin.f
 repeat' first
   | (with_reducible exact LeO.refl _)
   | exact environref03_skip.mono _ _
   | exact LeO.none _
   | refine LeO.ite ?_ ?_
   | refine LeO.bind ?_ (fun _ => ?_)
set_option maxHeartbeats 8000000 in
set_option maxRecDepth 100000 in
theorem environref03_begin.calls (k : Nat) (a0 : ByteArray) (r1 : Int) (r2 : Bool) (r3 : Int) (w : World) (h : environref03_begin.f k a0 = some (r1, r2, r3)) :
  Calls Tryz.prog 65 #[.string a0] w fun e w' => e = .returned (.tuple #[.int .i64 r1, .bool r2, .int .i64 r3]) ∧ Drawn0 w w' := by
 have H : ((environref03_skip.f k a0).bind fun t497 => (if t497 = (a0.size : Int) then (some (t497, false, 16)) else (if 0 ≤ t497 then (if t497 < (a0.size : Int) then (if (bt a0 t497) = 43 then (some (wrap64 (t497 + 1), ((bt a0 t497) == 45), 0)) else (if (bt a0 t497) = 45 then (some (wrap64 (t497 + 1), ((bt a0 t497) == 45), 0)) else (some (t497, false, 0)))) else (none)) else (none)))) = some (r1, r2, r3) := h
 clear h
 replace H := Option.bind_eq_some_iff.mp H
 obtain ⟨t497, A20, H⟩ := H
 try dsimp only at H
 have A2 := Aside0.mk A20
 clear A20
 by_cases c3 : t497 = (a0.size : Int)
 ·rw [if_pos c3] at H
  have c3b0 := beq_iff_eq.mpr c3
  have c3b1 := bne_eq_false_iff_eq.mpr c3
  clear c3
  simp only [Option.some.injEq, Prod.mk.injEq] at H
  obtain ⟨rfl, rfl, rfl⟩ := H
  go_enter Tryz.func65, Tryz.ntmps65
  go_wp2_with (first | (go_at_call 71; (with_reducible refine (environref03_skip.calls k a0 t497 _ A2.out).mono ?_); rintro e w' ⟨rfl, ⟨nd, rfl⟩⟩; (try first | exact ⟨rfl, _, World.drewN_drewN _ _ _⟩ | exact ⟨rfl, _, Eq.trans (World.drewN_drewN _ _ _) (congrArg (World.drewN _) (Nat.add_assoc _ _ _))⟩)))
  repeat (go_quiet (first | (go_at_call 71; (with_reducible refine (environref03_skip.calls k a0 t497 _ A2.out).mono ?_); rintro e w' ⟨rfl, ⟨nd, rfl⟩⟩; (try first | exact ⟨rfl, _, World.drewN_drewN _ _ _⟩ | exact ⟨rfl, _, Eq.trans (World.drewN_drewN _ _ _) (congrArg (World.drewN _) (Nat.add_assoc _ _ _))⟩))); try go_wp2_with (first | (go_at_call 71; (with_reducible refine (environref03_skip.calls k a0 t497 _ A2.out).mono ?_); rintro e w' ⟨rfl, ⟨nd, rfl⟩⟩; (try first | exact ⟨rfl, _, World.drewN_drewN _ _ _⟩ | exact ⟨rfl, _, Eq.trans (World.drewN_drewN _ _ _) (congrArg (World.drewN _) (Nat.add_assoc _ _ _))⟩))))
  go_ret3
  exact ⟨q1, dz⟩
 ·rw [if_neg c3] at H
  have c3b0 := beq_eq_false_iff_ne.mpr c3
  have c3b1 := bne_iff_ne.mpr c3
  by_cases c4 : 0 ≤ t497
  ·rw [if_pos c4] at H
   have c4b0 := decide_eq_true c4
   clear c4
   by_cases c5 : t497 < (a0.size : Int)
   ·rw [if_pos c5] at H
    have c5b0 := decide_eq_true c5
    clear c5
    by_cases c7 : (bt a0 t497) = 43
    ·rw [if_pos c7] at H
     have c7b0 := beq_iff_eq.mpr c7
     have c7b1 := bne_eq_false_iff_eq.mpr c7
     clear c7
     simp only [Option.some.injEq, Prod.mk.injEq] at H
     obtain ⟨rfl, rfl, rfl⟩ := H
     go_enter Tryz.func65, Tryz.ntmps65
     go_wp2_with (first | (go_at_call 71; (with_reducible refine (environref03_skip.calls k a0 t497 _ A2.out).mono ?_); rintro e w' ⟨rfl, ⟨nd, rfl⟩⟩; (try first | exact ⟨rfl, _, World.drewN_drewN _ _ _⟩ | exact ⟨rfl, _, Eq.trans (World.drewN_drewN _ _ _) (congrArg (World.drewN _) (Nat.add_assoc _ _ _))⟩); have p6 : 0 ≤ (t497 : Int) := od; have q6 : t497 < (a0.size : Int) := od; have hx6 := bt_at a0 t497; replace p6 := eq_true p6; replace q6 := eq_true q6; have p8 : 0 ≤ (t497 : Int) := od; have q8 : t497 < (a0.size : Int) := od; have hx8 := bt_at a0 t497; replace p8 := eq_true p8; replace q8 := eq_true q8))
     repeat (go_quiet (first | (go_at_call 71; (with_reducible refine (environref03_skip.calls k a0 t497 _ A2.out).mono ?_); rintro e w' ⟨rfl, ⟨nd, rfl⟩⟩; (try first | exact ⟨rfl, _, World.drewN_drewN _ _ _⟩ | exact ⟨rfl, _, Eq.trans (World.drewN_drewN _ _ _) (congrArg (World.drewN _) (Nat.add_assoc _ _ _))⟩); have p6 : 0 ≤ (t497 : Int) := od; have q6 : t497 < (a0.size : Int) := od; have hx6 := bt_at a0 t497; replace p6 := eq_true p6; replace q6 := eq_true q6; have p8 : 0 ≤ (t497 : Int) := od; have q8 : t497 < (a0.size : Int) := od; have hx8 := bt_at a0 t497; replace p8 := eq_true p8; replace q8 := eq_true q8)); try go_wp2_with (first | (go_at_call 71; (with_reducible refine (environref03_skip.calls k a0 t497 _ A2.out).mono ?_); rintro e w' ⟨rfl, ⟨nd, rfl⟩⟩; (try first | exact ⟨rfl, _, World.drewN_drewN _ _ _⟩ | exact ⟨rfl, _, Eq.trans (World.drewN_drewN _ _ _) (congrArg (World.drewN _) (Nat.add_assoc _ _ _))⟩); have p6 : 0 ≤ (t497 : Int) := od; have q6 : t497 < (a0.size : Int) := od; have hx6 := bt_at a0 t497; replace p6 := eq_true p6; replace q6 := eq_true q6; have p8 : 0 ≤ (t497 : Int) := od; have q8 : t497 < (a0.size : Int) := od; have hx8 := bt_at a0 t497; replace p8 := eq_true p8; replace q8 := eq_true q8)))
     go_ret3
     exact ⟨q1, dz⟩
    ·rw [if_neg c7] at H
     have c7b0 := beq_eq_false_iff_ne.mpr c7
     have c7b1 := bne_iff_ne.mpr c7
     by_cases c10 : (bt a0 t497) = 45
     ·rw [if_pos c10] at H
      have c10b0 := beq_iff_eq.mpr c10
      have c10b1 := bne_eq_false_iff_eq.mpr c10
      clear c10
      simp only [Option.some.injEq, Prod.mk.injEq] at H
      obtain ⟨rfl, rfl, rfl⟩ := H
      go_enter Tryz.func65, Tryz.ntmps65
      go_wp2_with (first | (go_at_call 71; (with_reducible refine (environref03_skip.calls k a0 t497 _ A2.out).mono ?_); rintro e w' ⟨rfl, ⟨nd, rfl⟩⟩; (try first | exact ⟨rfl, _, World.drewN_drewN _ _ _⟩ | exact ⟨rfl, _, Eq.trans (World.drewN_drewN _ _ _) (congrArg (World.drewN _) (Nat.add_assoc _ _ _))⟩); have p6 : 0 ≤ (t497 : Int) := od; have q6 : t497 < (a0.size : Int) := od; have hx6 := bt_at a0 t497; replace p6 := eq_true p6; replace q6 := eq_true q6; have p9 : 0 ≤ (t497 : Int) := od; have q9 : t497 < (a0.size : Int) := od; have hx9 := bt_at a0 t497; replace p9 := eq_true p9; replace q9 := eq_true q9; have p11 : 0 ≤ (t497 : Int) := od; have q11 : t497 < (a0.size : Int) := od; have hx11 := bt_at a0 t497; replace p11 := eq_true p11; replace q11 := eq_true q11))
      repeat (go_quiet (first | (go_at_call 71; (with_reducible refine (environref03_skip.calls k a0 t497 _ A2.out).mono ?_); rintro e w' ⟨rfl, ⟨nd, rfl⟩⟩; (try first | exact ⟨rfl, _, World.drewN_drewN _ _ _⟩ | exact ⟨rfl, _, Eq.trans (World.drewN_drewN _ _ _) (congrArg (World.drewN _) (Nat.add_assoc _ _ _))⟩); have p6 : 0 ≤ (t497 : Int) := od; have q6 : t497 < (a0.size : Int) := od; have hx6 := bt_at a0 t497; replace p6 := eq_true p6; replace q6 := eq_true q6; have p9 : 0 ≤ (t497 : Int) := od; have q9 : t497 < (a0.size : Int) := od; have hx9 := bt_at a0 t497; replace p9 := eq_true p9; replace q9 := eq_true q9; have p11 : 0 ≤ (t497 : Int) := od; have q11 : t497 < (a0.size : Int) := od; have hx11 := bt_at a0 t497; replace p11 := eq_true p11; replace q11 := eq_true q11)); try go_wp2_with (first | (go_at_call 71; (with_reducible refine (environref03_skip.calls k a0 t497 _ A2.out).mono ?_); rintro e w' ⟨rfl, ⟨nd, rfl⟩⟩; (try first | exact ⟨rfl, _, World.drewN_drewN _ _ _⟩ | exact ⟨rfl, _, Eq.trans (World.drewN_drewN _ _ _) (congrArg (World.drewN _) (Nat.add_assoc _ _ _))⟩); have p6 : 0 ≤ (t497 : Int) := od; have q6 : t497 < (a0.size : Int) := od; have hx6 := bt_at a0 t497; replace p6 := eq_true p6; replace q6 := eq_true q6; have p9 : 0 ≤ (t497 : Int) := od; have q9 : t497 < (a0.size : Int) := od; have hx9 := bt_at a0 t497; replace p9 := eq_true p9; replace q9 := eq_true q9; have p11 : 0 ≤ (t497 : Int) := od; have q11 : t497 < (a0.size : Int) := od; have hx11 := bt_at a0 t497; replace p11 := eq_true p11; replace q11 := eq_true q11)))
      go_ret3
      exact ⟨q1, dz⟩
     ·rw [if_neg c10] at H
      have c10b0 := beq_eq_false_iff_ne.mpr c10
      have c10b1 := bne_iff_ne.mpr c10
      simp only [Option.some.injEq, Prod.mk.injEq] at H
      obtain ⟨rfl, rfl, rfl⟩ := H
      go_enter Tryz.func65, Tryz.ntmps65
      go_wp2_with (first | (go_at_call 71; (with_reducible refine (environref03_skip.calls k a0 t497 _ A2.out).mono ?_); rintro e w' ⟨rfl, ⟨nd, rfl⟩⟩; (try first | exact ⟨rfl, _, World.drewN_drewN _ _ _⟩ | exact ⟨rfl, _, Eq.trans (World.drewN_drewN _ _ _) (congrArg (World.drewN _) (Nat.add_assoc _ _ _))⟩); have p6 : 0 ≤ (t497 : Int) := od; have q6 : t497 < (a0.size : Int) := od; have hx6 := bt_at a0 t497; replace p6 := eq_true p6; replace q6 := eq_true q6; have p9 : 0 ≤ (t497 : Int) := od; have q9 : t497 < (a0.size : Int) := od; have hx9 := bt_at a0 t497; replace p9 := eq_true p9; replace q9 := eq_true q9))
      repeat (go_quiet (first | (go_at_call 71; (with_reducible refine (environref03_skip.calls k a0 t497 _ A2.out).mono ?_); rintro e w' ⟨rfl, ⟨nd, rfl⟩⟩; (try first | exact ⟨rfl, _, World.drewN_drewN _ _ _⟩ | exact ⟨rfl, _, Eq.trans (World.drewN_drewN _ _ _) (congrArg (World.drewN _) (Nat.add_assoc _ _ _))⟩); have p6 : 0 ≤ (t497 : Int) := od; have q6 : t497 < (a0.size : Int) := od; have hx6 := bt_at a0 t497; replace p6 := eq_true p6; replace q6 := eq_true q6; have p9 : 0 ≤ (t497 : Int) := od; have q9 : t497 < (a0.size : Int) := od; have hx9 := bt_at a0 t497; replace p9 := eq_true p9; replace q9 := eq_true q9)); try go_wp2_with (first | (go_at_call 71; (with_reducible refine (environref03_skip.calls k a0 t497 _ A2.out).mono ?_); rintro e w' ⟨rfl, ⟨nd, rfl⟩⟩; (try first | exact ⟨rfl, _, World.drewN_drewN _ _ _⟩ | exact ⟨rfl, _, Eq.trans (World.drewN_drewN _ _ _) (congrArg (World.drewN _) (Nat.add_assoc _ _ _))⟩); have p6 : 0 ≤ (t497 : Int) := od; have q6 : t497 < (a0.size : Int) := od; have hx6 := bt_at a0 t497; replace p6 := eq_true p6; replace q6 := eq_true q6; have p9 : 0 ≤ (t497 : Int) := od; have q9 : t497 < (a0.size : Int) := od; have hx9 := bt_at a0 t497; replace p9 := eq_true p9; replace q9 := eq_true q9)))
      go_ret3
      exact ⟨q1, dz⟩
   ·rw [if_neg c5] at H
    exact absurd H (by simp)
  ·rw [if_neg c4] at H
   exact absurd H (by simp)

/-! ### environref03_digit: function 99 -/
def environref03_digit.f (a0 : Int) : Option (Bool) := if a0 ≥ 48 then (some (decide (a0 ≤ 57))) else (some false)
set_option maxHeartbeats 8000000 in
set_option maxRecDepth 100000 in
theorem environref03_digit.calls (a0 : Int) (r : Bool) (w : World) (h : environref03_digit.f a0 = some r) :
  Calls Tryz.prog 99 #[.int .u8 a0] w fun e w' => e = .returned (.bool r) ∧ Drawn0 w w' := by
 have H : (if a0 ≥ 48 then (some (decide (a0 ≤ 57))) else (some false)) = some r := h
 clear h
 by_cases c2 : a0 ≥ 48
 ·rw [if_pos c2] at H
  have c2b0 := decide_eq_true c2
  clear c2
  obtain rfl := Option.some.inj H
  go_enter Tryz.func99, Tryz.ntmps99
  go_wp2
  go_ret
  exact ⟨q1, dz⟩
 ·rw [if_neg c2] at H
  have c2b0 := decide_eq_false c2
  clear c2
  obtain rfl := Option.some.inj H
  go_enter Tryz.func99, Tryz.ntmps99
  go_wp2
  go_ret
  exact ⟨q1, dz⟩

/-! ### environref03_digits: function 66 -/
def environref03_digits.l0 : Nat → ByteArray → Int → Int → Option (Int)
 | 0, _, _, _ => none
 | k + 1, x0, x1, x5 => if (wrap64 (x1 + x5)) < (x0.size : Int) then (if 0 ≤ (wrap64 (x1 + x5)) then ((environref03_digit.f (bt x0 (wrap64 (x1 + x5)))).bind fun t498 => (if t498 = true then (environref03_digits.l0 k x0 x1 (wrap64 (x5 + 1))) else (some x5))) else (none)) else (some x5)
def environref03_digits.f (k : Nat) (a0 : ByteArray) (a1 : Int) : Option (Int) := environref03_digits.l0 k a0 a1 0
theorem environref03_digits.mono_l : ∀ k, (∀ y0 y1 y2, LeO (environref03_digits.l0 k y0 y1 y2) (environref03_digits.l0 (k + 1) y0 y1 y2))
 | 0 => fun _ _ _ r h => by simp [environref03_digits.l0] at h
 | k + 1 => by
  have ih0 := environref03_digits.mono_l k
  ·intro y0 y1 y2
   unfold environref03_digits.l0
   repeat' first
   | (with_reducible exact LeO.refl _)
   | exact ih0 _ _ _
   | exact LeO.none _
   | refine LeO.ite ?_ ?_
   | refine LeO.bind ?_ (fun _ => ?_)
theorem environref03_digits.mono : ∀ a0 a1 k, LeO (environref03_digits.f k a0 a1) (environref03_digits.f (k + 1) a0 a1) := by
 intro a0 a1 k
 have ih0 := environref03_digits.mono_l k
 unfold environref03_digits.f
 repeat' first
   | (with_reducible exact LeO.refl _)
   | exact ih0 _ _ _
   | exact LeO.none _
   | refine LeO.ite ?_ ?_
   | refine LeO.bind ?_ (fun _ => ?_)
set_option maxHeartbeats 8000000 in
set_option maxRecDepth 100000 in
theorem environref03_digits.calls (k : Nat) (a0 : ByteArray) (a1 : Int) (r : Int) (w : World) (h : environref03_digits.f k a0 a1 = some r) :
  Calls Tryz.prog 66 #[.string a0, .int .i64 a1] w fun e w' => e = .returned (.int .i64 r) ∧ Drawn0 w w' := by
 have H : (environref03_digits.l0 k a0 a1 0) = some r := h
 clear h
 have H' := Aside0.mk H
 clear H
 go_enter Tryz.func66, Tryz.ntmps66
 go_wp2
 go_loopg [5] k (fun kq v5 w' => ∃ (x5_1 : Int), v5 = .int .i64 x5_1 ∧ Aside0 (environref03_digits.l0 kq a0 a1 x5_1 = some r) ∧ Aside0 (kq ≤ k) ∧ Drawn0 w w')
 case atStart => exact ⟨(0), q1, H', ⟨Nat.le_refl _⟩, dz⟩
 case round =>
  clear H'
  obtain ⟨x5_1, rfl, HA, HK1, ⟨m1, rfl⟩⟩ := hrel
  cases gk with
  | zero => exact absurd HA.out (by simp [environref03_digits.l0])
  | succ k1 =>
   have H := HA.out
   clear HA
   simp only [environref03_digits.l0] at H
   by_cases c3 : (wrap64 (a1 + x5_1)) < (a0.size : Int)
   ·rw [if_pos c3] at H
    have c3b0 := decide_eq_true c3
    clear c3
    obtain ⟨ji4, hji4⟩ : ∃ j_ : Int, (wrap64 (a1 + x5_1)) = j_ := ⟨_, rfl⟩
    replace H : (if 0 ≤ (ji4) then ((environref03_digit.f (bt a0 (ji4))).bind fun t498 => (if t498 = true then (environref03_digits.l0 k1 a0 a1 (wrap64 (x5_1 + 1))) else (some x5_1))) else (none)) = some r := by first | (rw [hji4] at H; exact H) | (simp only [hji4] at H ⊢; exact H)
    (try rw [hji4] at c3b0)
    have hji4w : (IntKind.i64.wrap (a1 + x5_1)) = ji4 := (i64_w _).trans hji4
    by_cases c5 : 0 ≤ (ji4)
    ·rw [if_pos c5] at H
     have c5b0 := decide_eq_true c5
     clear c5
     replace H := Option.bind_eq_some_iff.mp H
     obtain ⟨t498, A70, H⟩ := H
     try dsimp only at H
     have A7 := Aside0.mk A70
     clear A70
     by_cases c8 : t498 = true
     ·subst c8
      rw [if_pos rfl] at H
      have H' := Aside0.mk H
      clear H
      have p6 : 0 ≤ ((ji4) : Int) := od
      have q6 : (ji4) < (a0.size : Int) := od
      have hx6 := bt_at a0 (ji4)
      replace p6 := eq_true p6
      replace q6 := eq_true q6
      go_wp2_with (first | (go_at_call 99; (with_reducible refine (environref03_digit.calls (bt a0 (ji4)) true _ A7.out).mono ?_); rintro e w' ⟨rfl, ⟨nd, rfl⟩⟩))
      go_roundg k1
      case measure => have := HK1.out; omega
      case rel => exact ⟨(wrap64 (x5_1 + 1)), q1, H', ⟨by have := HK1.out; omega⟩, dz⟩
     ·replace c8 := Bool.eq_false_iff.mpr c8
      subst c8
      rw [if_neg (show ¬ (false = true) by decide)] at H
      obtain rfl := Option.some.inj H
      have p6 : 0 ≤ ((ji4) : Int) := od
      have q6 : (ji4) < (a0.size : Int) := od
      have hx6 := bt_at a0 (ji4)
      replace p6 := eq_true p6
      replace q6 := eq_true q6
      go_wp2_with (first | (go_at_call 99; (with_reducible refine (environref03_digit.calls (bt a0 (ji4)) false _ A7.out).mono ?_); rintro e w' ⟨rfl, ⟨nd, rfl⟩⟩))
      go_ret
      exact ⟨by first | rfl | (simp; done) | (simp only [← hji4] <;> (first | rfl | simp)) | (simp [*]; done), dz⟩
    ·rw [if_neg c5] at H
     exact absurd H (by simp)
   ·rw [if_neg c3] at H
    have c3b0 := decide_eq_false c3
    clear c3
    obtain rfl := Option.some.inj H
    go_wp2
    go_ret
    exact ⟨q1, dz⟩

/-! ### environref03_nat: function 103 -/
mutual
def environref03_nat.l0 : Nat → ByteArray → List Int → Int → Option (List Int)
 | 0, _, _, _ => none
 | k + 1, x0, x3, x4 => if x4 ≥ 0 then (if 0 ≤ x4 then (if x4 < (x0.size : Int) then (if x3.length < 17592186044416 then (environref03_nat.l0 k x0 (x3 ++ [((bt x0 x4) - 48) % 256]) (wrap64 (x4 - 1))) else (none)) else (none)) else (none)) else (environref03_nat.l1 k x3)
def environref03_nat.l1 : Nat → List Int → Option (List Int)
 | 0, _ => none
 | k + 1, x3 => if (x3.length : Int) > 0 then (if 0 ≤ (wrap64 ((x3.length : Int) - 1)) then (if (wrap64 ((x3.length : Int) - 1)) < (x3.length : Int) then (if (rd x3 (wrap64 ((x3.length : Int) - 1))) = 0 then (if (wrap64 ((x3.length : Int) - 1)) ≤ (x3.length : Int) then (environref03_nat.l1 k (x3.take ((wrap64 ((x3.length : Int) - 1)) : Int).toNat)) else (none)) else (some x3)) else (none)) else (none)) else (some x3)
end
def environref03_nat.f (k : Nat) (a0 : ByteArray) : Option (List Int) := environref03_nat.l0 k a0 (([] : List Int)) (wrap64 ((a0.size : Int) - 1))
theorem environref03_nat.mono_l : ∀ k, (∀ y0 y1 y2, LeO (environref03_nat.l0 k y0 y1 y2) (environref03_nat.l0 (k + 1) y0 y1 y2)) ∧ (∀ y0, LeO (environref03_nat.l1 k y0) (environref03_nat.l1 (k + 1) y0))
 | 0 => ⟨fun _ _ _ r h => by simp [environref03_nat.l0] at h, fun _ r h => by simp [environref03_nat.l1] at h⟩
 | k + 1 => by
  obtain ⟨ih0, ih1⟩ := environref03_nat.mono_l k
  refine ⟨?_, ?_⟩ <;> intros <;> (first | unfold environref03_nat.l0 | unfold environref03_nat.l1) <;> (repeat' first
   | (with_reducible exact LeO.refl _)
   | exact ih0 _ _ _
   | exact ih1 _
   | exact LeO.none _
   | refine LeO.ite ?_ ?_
   | refine LeO.bind ?_ (fun _ => ?_))
theorem environref03_nat.mono : ∀ a0 k, LeO (environref03_nat.f k a0) (environref03_nat.f (k + 1) a0) := by
 intro a0 k
 obtain ⟨ih0, ih1⟩ := environref03_nat.mono_l k
 unfold environref03_nat.f
 repeat' first
   | (with_reducible exact LeO.refl _)
   | exact ih0 _ _ _
   | exact ih1 _
   | exact LeO.none _
   | refine LeO.ite ?_ ?_
   | refine LeO.bind ?_ (fun _ => ?_)
set_option maxHeartbeats 8000000 in
set_option maxRecDepth 100000 in
theorem environref03_nat.calls (k : Nat) (a0 : ByteArray) (r : List Int) (w : World) (h : environref03_nat.f k a0 = some r) :
  Calls Tryz.prog 103 #[.string a0] w fun e w' => ∃ v0_ : Value, e = .returned (v0_) ∧ Kd.R (Kd.int .i64) 3 w' w.heap.size (fun _ => True) v0_ r ∧ Below w.heap.size w w' := by
 have HB := Aside0.mk (Below.refl w.heap.size w)
 have H : (environref03_nat.l0 k a0 (([] : List Int)) (wrap64 ((a0.size : Int) - 1))) = some r := h
 clear h
 obtain ⟨y499, hy499⟩ : ∃ y_ : List Int, y_ = (([] : List Int)) := ⟨_, rfl⟩
 replace H : (environref03_nat.l0 k a0 y499 (wrap64 ((a0.size : Int) - 1))) = some r := by first | (rw [hy499]; with_reducible exact H) | (have H2_ := (Option.bind_some _ _).symm.trans H; rw [hy499]; with_reducible exact H2_) | (have H2_ := (Option.bind_some _ _).symm.trans H; with_reducible exact H2_) | with_reducible exact H | (rw [hy499]; exact H) | exact H
 have Ny499 := Aside0.mk hy499
 clear hy499
 have H' := Aside0.mk H
 clear H
 go_enter Tryz.func103, Tryz.ntmps103
 go_wp2_with (first | ((with_reducible refine gate_dst (N := 5) rfl ?_); (try (refine gate_guard (by rfl) ?_; dsimp only)); refine Kd.R_lit (Kd.int .i64) _ 3 ?hg (N := 5) ?hd (xs := ([] : List Int)) (inner := []) (ok := fun _ => True) (okp := fun _ => True) ?hr ?hp (fun _ hk => hk) trivial (Below.refl _ _) (Nat.le_refl _) (by simp) ?_; (case hd => rfl); (case hg => rfl); (case hr => first | (go_simp; done) | (go_simp; rfl)); (case hp => exact (Reps.none _ _)); intro v500 w2 ho3 hb hg_ hnew_; clear hg_ hnew_; (first | rw [← Ny499.out] at ho3 | (simp only [Int.reduceToNat] at ho3; rw [← Ny499.out] at ho3)); have HO501 := Aside0.mk (Kd.R_lower ho3 (below_size (bw HB))); replace HB := bt_ HB hb; clear hb ho3))
 go_loopg [3, 4] k (fun kq v3 v4 w' => ∃ (x3_1 : List Int) (x4_1 : Int), v4 = .int .i64 x4_1 ∧ Aside0 (environref03_nat.l0 kq a0 x3_1 x4_1 = some r) ∧ Aside0 (kq ≤ k) ∧ Aside0 (Kd.R (Kd.int .i64) 3 w' w.heap.size (fun _ => True) v3 x3_1) ∧ Aside0 (Below w.heap.size w w'))
 case atStart => exact ⟨(y499), (wrap64 ((a0.size : Int) - 1)), q1, H', ⟨Nat.le_refl _⟩, ⟨by (with_reducible repeat (first | apply Kd.R_alloc | apply Kd.R_drewN | apply Kd.R_drew)); exact HO501.out⟩, ⟨bw HB⟩⟩
 case round =>
  clear H'
  obtain ⟨x3_1, x4_1, rfl, HA, HK1, HO_3, HB⟩ := hrel
  cases gk with
  | zero => exact absurd HA.out (by simp [environref03_nat.l0])
  | succ k1 =>
   have H := HA.out
   clear HA
   simp only [environref03_nat.l0] at H
   by_cases c4 : x4_1 ≥ 0
   ·rw [if_pos c4] at H
    have c4b0 := decide_eq_true c4
    clear c4
    by_cases c5 : 0 ≤ x4_1
    ·rw [if_pos c5] at H
     have c5b0 := decide_eq_true c5
     clear c5
     by_cases c6 : x4_1 < (a0.size : Int)
     ·rw [if_pos c6] at H
      have c6b0 := decide_eq_true c6
      clear c6
      by_cases c8 : x3_1.length < 17592186044416
      ·rw [if_pos c8] at H
       have LMc8 := Aside0.mk c8
       clear c8
       obtain ⟨y502, hy502⟩ : ∃ y_ : List Int, y_ = (x3_1 ++ [((bt a0 x4_1) - 48) % 256]) := ⟨_, rfl⟩
       replace H : (environref03_nat.l0 k1 a0 y502 (wrap64 (x4_1 - 1))) = some r := by first | (rw [hy502]; with_reducible exact H) | (have H2_ := (Option.bind_some _ _).symm.trans H; rw [hy502]; with_reducible exact H2_) | (have H2_ := (Option.bind_some _ _).symm.trans H; with_reducible exact H2_) | with_reducible exact H | (rw [hy502]; exact H) | exact H
       have Ny502 := Aside0.mk hy502
       clear hy502
       have H' := Aside0.mk H
       clear H
       have p7 : 0 ≤ (x4_1 : Int) := od
       have q7 : x4_1 < (a0.size : Int) := od
       have hx7 := bt_at a0 x4_1
       replace p7 := eq_true p7
       replace q7 := eq_true q7
       go_wp2_with (first | ((with_reducible refine gate_builtin (b := .append) (xs := #[.tmp 13, .tmp 19]) rfl ?_); (try (refine gate_guard (by rfl) ?_; dsimp only)); at_builtin; refine Kd.R_append (Kd.int .i64) (w0 := w) w.heap.size rfl (.tmp 13) (.tmp 19) 68 3 (.int .i64 0) 8 rfl Tryz.underlying68 info3 rfl (by decide) (by omega) u3 x3_1 (((bt a0 x4_1) - 48) % 256) [.int .i64 (((bt a0 x4_1) - 48) % 256)] (fun _ => True) (fun _ => False) rfl rfl ?aP (fun _ hk => hk.elim) ?aF ?aO ?aB ?aS ?aL ?_; (case aP => exact rfl); (case aB => exact (bw HB)); (case aF => exact (fun _ _ => trivial)); (case aO => exact (by (with_reducible repeat (first | apply Kd.R_alloc | apply Kd.R_drewN | apply Kd.R_drew)); exact HO_3.out)); (case aS => exact (below_size (bw HB))); (case aL => have := LMc8.out; omega); intro v503 w9 ho hb hg hat; rw [← Ny502.out] at ho; replace HB := Aside0.mk (hb); have HO504 := Aside0.mk (ho); clear HO_3; clear ho hb hg hat))
       go_roundg k1
       case measure => have := HK1.out; omega
       case rel => exact ⟨(y502), (wrap64 (x4_1 - 1)), q1, H', ⟨by have := HK1.out; omega⟩, ⟨by (with_reducible repeat (first | apply Kd.R_alloc | apply Kd.R_drewN | apply Kd.R_drew)); exact HO504.out⟩, ⟨bw HB⟩⟩
      ·rw [if_neg c8] at H
       exact absurd H (by simp)
     ·rw [if_neg c6] at H
      exact absurd H (by simp)
    ·rw [if_neg c5] at H
     exact absurd H (by simp)
   ·rw [if_neg c4] at H
    have c4b0 := decide_eq_false c4
    clear c4
    have H' := Aside0.mk H
    clear H
    go_wp2
    go_loopg [3] k1 (fun kq v3 w' => ∃ (x3_2 : List Int), Aside0 (environref03_nat.l1 kq x3_2 = some r) ∧ Aside0 (kq ≤ k1) ∧ Aside0 (Kd.R (Kd.int .i64) 3 w' w.heap.size (fun _ => True) v3 x3_2) ∧ Aside0 (Below w.heap.size w w'))
    case atStart => exact ⟨(x3_1), H', ⟨Nat.le_refl _⟩, ⟨by (with_reducible repeat (first | apply Kd.R_alloc | apply Kd.R_drewN | apply Kd.R_drew)); exact HO_3.out⟩, ⟨bw HB⟩⟩
    case round =>
     clear H'
     try clear c4
     try clear c4b0
     obtain ⟨x3_2, HA, HK2, HO_3, HB⟩ := hrel
     cases gk with
     | zero => exact absurd HA.out (by simp [environref03_nat.l1])
     | succ k2 =>
      have H := HA.out
      clear HA
      simp only [environref03_nat.l1] at H
      by_cases c10 : (x3_2.length : Int) > 0
      ·rw [if_pos c10] at H
       have c10b0 := decide_eq_true c10
       have c10b1 : decide (0 < x3_2.length) = true := decide_eq_true (by omega)
       clear c10
       obtain ⟨ji11, hji11⟩ : ∃ j_ : Int, (wrap64 ((x3_2.length : Int) - 1)) = j_ := ⟨_, rfl⟩
       replace H : (if 0 ≤ (ji11) then (if (ji11) < (x3_2.length : Int) then (if (rd x3_2 (ji11)) = 0 then (if (ji11) ≤ (x3_2.length : Int) then (environref03_nat.l1 k2 (x3_2.take ((ji11) : Int).toNat)) else (none)) else (some x3_2)) else (none)) else (none)) = some r := by first | (rw [hji11] at H; exact H) | (simp only [hji11] at H ⊢; exact H)
       have hji11w : (IntKind.i64.wrap ((x3_2.length : Int) - 1)) = ji11 := (i64_w _).trans hji11
       by_cases c12 : 0 ≤ (ji11)
       ·rw [if_pos c12] at H
        have c12b0 := decide_eq_true c12
        clear c12
        by_cases c13 : (ji11) < (x3_2.length : Int)
        ·rw [if_pos c13] at H
         have c13b0 := decide_eq_true c13
         clear c13
         by_cases c14 : (rd x3_2 (ji11)) = 0
         ·rw [if_pos c14] at H
          have c14b0 := beq_iff_eq.mpr c14
          have c14b1 := bne_eq_false_iff_eq.mpr c14
          clear c14
          by_cases c15 : (ji11) ≤ (x3_2.length : Int)
          ·rw [if_pos c15] at H
           have c15b0 := eq_true c15
           have c15b1 := decide_eq_true c15
           clear c15
           obtain ⟨y506, hy506⟩ : ∃ y_ : List Int, y_ = (x3_2.take ((ji11) : Int).toNat) := ⟨_, rfl⟩
           replace H : (environref03_nat.l1 k2 y506) = some r := by first | (rw [hy506]; with_reducible exact H) | (have H2_ := (Option.bind_some _ _).symm.trans H; rw [hy506]; with_reducible exact H2_) | (have H2_ := (Option.bind_some _ _).symm.trans H; with_reducible exact H2_) | with_reducible exact H | (rw [hy506]; exact H) | exact H
           have Ny506 := Aside0.mk hy506
           clear hy506
           have H' := Aside0.mk H
           clear H
           obtain ⟨Ao16, co16, eo16⟩ := Kd.R_slice HO_3.out
           subst eo16
           have p505 : 0 ≤ ((ji11) : Int) := od
           have q505 : (ji11) < (x3_2.length : Int) := od
           obtain ⟨ad505, e505, hx505_0⟩ := Kd.at_int (Kd.R_reads' HO_3.out).2.2 (ji11) p505 q505
           cases e505
           replace p505 := eq_true p505
           replace q505 := eq_true q505
           have q17 : ((ji11) : Int) ≤ ((x3_2.length : Int) : Int) := od
           obtain ⟨i017, hi017, _, hsz17, _⟩ := info_parts info3
           have hcut17 := cut_to (P := Tryz.prog) 68 3 .i64 Tryz.underlying68 hi017 (some ad505) x3_2.length co16 (ji11) (od) q17 (Kd.R_reads' HO_3.out).2.1
           have hr17 := Kd.R_take (m := ((ji11) : Int).toNat) HO_3.out (by omega)
           have hy17 : y506.length = ((ji11) : Int).toNat := (by rw [Ny506.out, List.length_take]; omega)
           rw [← Ny506.out] at hr17
           rw [← hy17] at hr17 hcut17
           clear hy17 hi017 hsz17 HO_3
           have HO508 := Aside0.mk hr17
           clear hr17
           replace q17 := eq_true q17
           go_wp2
           go_roundg k2
           case measure => have := HK1.out; have := HK2.out; omega
           case rel => exact ⟨(y506), H', ⟨by have := HK1.out; have := HK2.out; omega⟩, ⟨by (with_reducible repeat (first | apply Kd.R_alloc | apply Kd.R_drewN | apply Kd.R_drew)); exact HO508.out⟩, ⟨bw HB⟩⟩
          ·rw [if_neg c15] at H
           exact absurd H (by simp)
         ·rw [if_neg c14] at H
          have c14b0 := beq_eq_false_iff_ne.mpr c14
          have c14b1 := bne_iff_ne.mpr c14
          obtain rfl := Option.some.inj H
          obtain ⟨Ao18, co18, eo18⟩ := Kd.R_slice HO_3.out
          subst eo18
          have p505 : 0 ≤ ((ji11) : Int) := od
          have q505 : (ji11) < (x3_2.length : Int) := od
          obtain ⟨ad505, e505, hx505_0⟩ := Kd.at_int (Kd.R_reads' HO_3.out).2.2 (ji11) p505 q505
          cases e505
          replace p505 := eq_true p505
          replace q505 := eq_true q505
          go_wp2
          go_ret
          exact ⟨_, by first | rfl | (simp [errW_none, errW_some] <;> rfl) | (simp only [← hji11]; first | rfl | (simp [errW_none, errW_some] <;> rfl)) | (simp [*, errW_none, errW_some] <;> rfl), by (with_reducible repeat (first | apply Kd.R_alloc | apply Kd.R_drewN | apply Kd.R_drew)); exact HO_3.out, bw HB⟩
        ·rw [if_neg c13] at H
         exact absurd H (by simp)
       ·rw [if_neg c12] at H
        exact absurd H (by simp)
      ·rw [if_neg c10] at H
       have c10b0 := decide_eq_false c10
       have c10b1 : decide (0 < x3_2.length) = false := decide_eq_false (by omega)
       clear c10
       obtain rfl := Option.some.inj H
       obtain ⟨Ao19, co19, eo19⟩ := Kd.R_slice HO_3.out
       subst eo19
       go_wp2
       go_ret
       exact ⟨_, by first | rfl | (simp [errW_none, errW_some] <;> rfl) | (simp [*, errW_none, errW_some] <;> rfl), by (with_reducible repeat (first | apply Kd.R_alloc | apply Kd.R_drewN | apply Kd.R_drew)); exact HO_3.out, bw HB⟩

/-! ### environref03_value: function 100 -/
def environref03_value.l0 : Nat → List Int → Int → Int → Option (Int)
 | 0, _, _, _ => none
 | k + 1, x3, x4, x5 => if x5 ≥ 0 then (if 0 ≤ x5 then (if x5 < (x3.length : Int) then (environref03_value.l0 k x3 (wrap64 ((wrap64 (10 * x4)) + (rd x3 x5))) (wrap64 (x5 - 1))) else (none)) else (none)) else (some x4)
def environref03_value.f (k : Nat) (a0 : ByteArray) : Option (Int) := (environref03_nat.f k a0).bind fun t509 => (if (t509.length : Int) > 18 then (some 1000000000000000000) else (environref03_value.l0 k t509 0 (wrap64 ((t509.length : Int) - 1))))
theorem environref03_value.mono_l : ∀ k, (∀ y0 y1 y2, LeO (environref03_value.l0 k y0 y1 y2) (environref03_value.l0 (k + 1) y0 y1 y2))
 | 0 => fun _ _ _ r h => by simp [environref03_value.l0] at h
 | k + 1 => by
  have ih0 := environref03_value.mono_l k
  ·intro y0 y1 y2
   unfold environref03_value.l0
   repeat' first
   | (with_reducible exact LeO.refl _)
   | exact ih0 _ _ _
   | exact environref03_nat.mono _ _
   | exact LeO.none _
   | refine LeO.ite ?_ ?_
   | refine LeO.bind ?_ (fun _ => ?_)
theorem environref03_value.mono : ∀ a0 k, LeO (environref03_value.f k a0) (environref03_value.f (k + 1) a0) := by
 intro a0 k
 have ih0 := environref03_value.mono_l k
 unfold environref03_value.f
 repeat' first
   | (with_reducible exact LeO.refl _)
   | exact ih0 _ _ _
   | exact environref03_nat.mono _ _
   | exact LeO.none _
   | refine LeO.ite ?_ ?_
   | refine LeO.bind ?_ (fun _ => ?_)
set_option maxHeartbeats 8000000 in
set_option maxRecDepth 100000 in
theorem environref03_value.calls (k : Nat) (a0 : ByteArray) (r : Int) (w : World) (h : environref03_value.f k a0 = some r) :
  Calls Tryz.prog 100 #[.string a0] w fun e w' => e = .returned (.int .i64 r) ∧ Below w.heap.size w w' := by
 have HB := Aside0.mk (Below.refl w.heap.size w)
 have H : ((environref03_nat.f k a0).bind fun t509 => (if (t509.length : Int) > 18 then (some 1000000000000000000) else (environref03_value.l0 k t509 0 (wrap64 ((t509.length : Int) - 1))))) = some r := h
 clear h
 replace H := Option.bind_eq_some_iff.mp H
 obtain ⟨t509, A20, H⟩ := H
 try dsimp only at H
 have A2 := Aside0.mk A20
 clear A20
 by_cases c3 : (t509.length : Int) > 18
 ·rw [if_pos c3] at H
  have c3b0 := decide_eq_true c3
  have c3b1 : decide (18 < t509.length) = true := decide_eq_true (by omega)
  clear c3
  obtain rfl := Option.some.inj H
  go_enter Tryz.func100, Tryz.ntmps100
  go_wp2_with (first | (refine gc 103 ?_; refine gl (some 7) Tryz.func103 #[.string a0] ?_; (with_reducible refine (environref03_nat.calls k a0 t509 _ A2.out).mono ?_); rintro e w4 ⟨v510, rfl, ho0, hb⟩; refine ⟨_, rfl, ?_⟩; have HO511 := Aside0.mk (Kd.R_lower ho0 (below_size (bw HB))); replace HB := bt_ HB hb; (try clear hb); (try clear ho0); obtain ⟨Ao5, co5, eo5⟩ := Kd.R_slice HO511.out; subst eo5))
  go_ret
  exact ⟨by first | rfl | (simp [errW_none, errW_some] <;> rfl) | (simp [*, errW_none, errW_some] <;> rfl), bw HB⟩
 ·rw [if_neg c3] at H
  have c3b0 := decide_eq_false c3
  have c3b1 : decide (18 < t509.length) = false := decide_eq_false (by omega)
  clear c3
  have H' := Aside0.mk H
  clear H
  go_enter Tryz.func100, Tryz.ntmps100
  go_wp2_with (first | (refine gc 103 ?_; refine gl (some 7) Tryz.func103 #[.string a0] ?_; (with_reducible refine (environref03_nat.calls k a0 t509 _ A2.out).mono ?_); rintro e w6 ⟨v510, rfl, ho0, hb⟩; refine ⟨_, rfl, ?_⟩; have HO511 := Aside0.mk (Kd.R_lower ho0 (below_size (bw HB))); replace HB := bt_ HB hb; (try clear hb); (try clear ho0); obtain ⟨Ao7, co7, eo7⟩ := Kd.R_slice HO511.out; subst eo7))
  go_loopg [4, 5] k (fun kq v4 v5 w' => ∃ (x4_1 : Int) (x5_1 : Int), v4 = .int .i64 x4_1 ∧ v5 = .int .i64 x5_1 ∧ Aside0 (environref03_value.l0 kq t509 x4_1 x5_1 = some r) ∧ Aside0 (kq ≤ k) ∧ Aside0 (Kd.R (Kd.int .i64) 3 w' w.heap.size (fun _ => True) (.slice Ao7 t509.length co7) t509) ∧ Aside0 (Below w.heap.size w w'))
  case atStart => exact ⟨(0), (wrap64 ((t509.length : Int) - 1)), q1, q1, H', ⟨Nat.le_refl _⟩, ⟨by (with_reducible repeat (first | apply Kd.R_alloc | apply Kd.R_drewN | apply Kd.R_drew)); exact HO511.out⟩, ⟨bw HB⟩⟩
  case round =>
   clear H'
   try clear c3
   try clear c3b0
   try clear c3b1
   obtain ⟨x4_1, x5_1, rfl, rfl, HA, HK1, HO_3, HB⟩ := hrel
   cases gk with
   | zero => exact absurd HA.out (by simp [environref03_value.l0])
   | succ k1 =>
    have H := HA.out
    clear HA
    simp only [environref03_value.l0] at H
    by_cases c8 : x5_1 ≥ 0
    ·rw [if_pos c8] at H
     have c8b0 := decide_eq_true c8
     clear c8
     by_cases c9 : 0 ≤ x5_1
     ·rw [if_pos c9] at H
      have c9b0 := decide_eq_true c9
      clear c9
      by_cases c10 : x5_1 < (t509.length : Int)
      ·rw [if_pos c10] at H
       have c10b0 := decide_eq_true c10
       clear c10
       have H' := Aside0.mk H
       clear H
       have p512 : 0 ≤ (x5_1 : Int) := od
       have q512 : x5_1 < (t509.length : Int) := od
       obtain ⟨ad512, e512, hx512_0⟩ := Kd.at_int (Kd.R_reads' HO_3.out).2.2 x5_1 p512 q512
       cases e512
       replace p512 := eq_true p512
       replace q512 := eq_true q512
       go_wp2
       go_roundg k1
       case measure => have := HK1.out; omega
       case rel => exact ⟨(wrap64 ((wrap64 (10 * x4_1)) + (rd t509 x5_1))), (wrap64 (x5_1 - 1)), q1, q1, H', ⟨by have := HK1.out; omega⟩, ⟨by (with_reducible repeat (first | apply Kd.R_alloc | apply Kd.R_drewN | apply Kd.R_drew)); exact HO_3.out⟩, ⟨bw HB⟩⟩
      ·rw [if_neg c10] at H
       exact absurd H (by simp)
     ·rw [if_neg c9] at H
      exact absurd H (by simp)
    ·rw [if_neg c8] at H
     have c8b0 := decide_eq_false c8
     clear c8
     obtain rfl := Option.some.inj H
     go_wp2
     go_ret
     exact ⟨by first | rfl | (simp [errW_none, errW_some] <;> rfl) | (simp [*, errW_none, errW_some] <;> rfl), bw HB⟩

/-! ### environref01_Is: function 101 -/
def environref01_Is.f (a0 : Int) (a1 : Int) : Option (Bool) := (environref01_Max.f a0).bind fun bt513 => (if bt513.2 = 0 then (if a1 ≥ (wrap64 (-bt513.1)) then (some (decide (a1 ≤ bt513.1))) else (some false)) else (some false))
set_option maxHeartbeats 8000000 in
set_option maxRecDepth 100000 in
theorem environref01_Is.calls (a0 : Int) (a1 : Int) (r : Bool) (w : World) (h : environref01_Is.f a0 a1 = some r) :
  Calls Tryz.prog 101 #[.int .i64 a0, .int .i64 a1] w fun e w' => e = .returned (.bool r) ∧ Drawn0 w w' := by
 have H : ((environref01_Max.f a0).bind fun bt513 => (if bt513.2 = 0 then (if a1 ≥ (wrap64 (-bt513.1)) then (some (decide (a1 ≤ bt513.1))) else (some false)) else (some false))) = some r := h
 clear h
 replace H := Option.bind_eq_some_iff.mp H
 obtain ⟨⟨t513, t514⟩, A30, H⟩ := H
 try dsimp only at H
 have A3 := Aside0.mk A30
 clear A30
 by_cases c4 : t514 = 0
 ·rw [if_pos c4] at H
  have c4b0 := beq_iff_eq.mpr c4
  have c4b1 := bne_eq_false_iff_eq.mpr c4
  clear c4
  by_cases c5 : a1 ≥ (wrap64 (-t513))
  ·rw [if_pos c5] at H
   have c5b0 := decide_eq_true c5
   clear c5
   obtain rfl := Option.some.inj H
   go_enter Tryz.func101, Tryz.ntmps101
   go_wp2_with (first | (refine gc 64 ?_; refine gl (some 9) Tryz.func64 #[.int .i64 a0] ?_; (with_reducible refine (environref01_Max.calls a0 t513 t514 _ A3.out).mono ?_); rintro e w' ⟨rfl, ⟨nd, rfl⟩⟩; refine ⟨_, rfl, ?_⟩))
   go_ret
   exact ⟨q1, dz⟩
  ·rw [if_neg c5] at H
   have c5b0 := decide_eq_false c5
   clear c5
   obtain rfl := Option.some.inj H
   go_enter Tryz.func101, Tryz.ntmps101
   go_wp2_with (first | (refine gc 64 ?_; refine gl (some 9) Tryz.func64 #[.int .i64 a0] ?_; (with_reducible refine (environref01_Max.calls a0 t513 t514 _ A3.out).mono ?_); rintro e w' ⟨rfl, ⟨nd, rfl⟩⟩; refine ⟨_, rfl, ?_⟩))
   go_ret
   exact ⟨q1, dz⟩
 ·rw [if_neg c4] at H
  have c4b0 := beq_eq_false_iff_ne.mpr c4
  have c4b1 := bne_iff_ne.mpr c4
  obtain rfl := Option.some.inj H
  go_enter Tryz.func101, Tryz.ntmps101
  go_wp2_with (first | (refine gc 64 ?_; refine gl (some 9) Tryz.func64 #[.int .i64 a0] ?_; (with_reducible refine (environref01_Max.calls a0 t513 t514 _ A3.out).mono ?_); rintro e w' ⟨rfl, ⟨nd, rfl⟩⟩; refine ⟨_, rfl, ?_⟩))
  go_ret
  exact ⟨q1, dz⟩

/-! ### environref03_Int: function 67 -/
def environref03_Int.j0 : Nat → Int → ByteArray → Bool → Option (Int × Int)
 | 0, _, _, _ => none
 | k + 1, x0, x1, x26 => if x26 = true then (some (0, 9)) else ((environref03_value.f k x1).bind fun t518 => ((environref01_Is.f x0 t518).bind fun t519 => (if t519 = true then (some (t518, 0)) else (some (0, 11)))))
def environref03_Int.f (k : Nat) (a0 : Int) (a1 : ByteArray) : Option (Int × Int) := (environref01_Max.f a0).bind fun bt515 => (if bt515.2 = 0 then (if (a1.size : Int) = 0 then (environref03_Int.j0 k a0 a1 true) else ((environref03_digits.f k a1 0).bind fun t517 => (environref03_Int.j0 k a0 a1 (t517 != (a1.size : Int))))) else (some (0, bt515.2)))
theorem environref03_Int.mono_l : ∀ k, (∀ y0 y1 y2, LeO (environref03_Int.j0 k y0 y1 y2) (environref03_Int.j0 (k + 1) y0 y1 y2))
 | 0 => fun _ _ _ r h => by simp [environref03_Int.j0] at h
 | k + 1 => by
  have ih0 := environref03_Int.mono_l k
  ·intro y0 y1 y2
   unfold environref03_Int.j0
   repeat' first
   | (with_reducible exact LeO.refl _)
   | exact ih0 _ _ _
   | exact environref03_digits.mono _ _ _
   | exact environref03_value.mono _ _
   | exact LeO.none _
   | refine LeO.ite ?_ ?_
   | refine LeO.bind ?_ (fun _ => ?_)
theorem environref03_Int.mono : ∀ a0 a1 k, LeO (environref03_Int.f k a0 a1) (environref03_Int.f (k + 1) a0 a1) := by
 intro a0 a1 k
 have ih0 := environref03_Int.mono_l k
 unfold environref03_Int.f
 repeat' first
   | (with_reducible exact LeO.refl _)
   | exact ih0 _ _ _
   | exact environref03_digits.mono _ _ _
   | exact environref03_value.mono _ _
   | exact LeO.none _
   | refine LeO.ite ?_ ?_
   | refine LeO.bind ?_ (fun _ => ?_)
set_option maxHeartbeats 8000000 in
set_option maxRecDepth 100000 in
theorem environref03_Int.calls (k : Nat) (a0 : Int) (a1 : ByteArray) (r1 : Int) (r2 : Int) (w : World) (h : environref03_Int.f k a0 a1 = some (r1, r2)) :
  Calls Tryz.prog 67 #[.int .i64 a0, .string a1] w fun e w' => e = .returned (.tuple #[.int .i64 r1, .int .i64 r2]) ∧ Below w.heap.size w w' := by
 have HB := Aside0.mk (Below.refl w.heap.size w)
 have H : ((environref01_Max.f a0).bind fun bt515 => (if bt515.2 = 0 then (if (a1.size : Int) = 0 then (environref03_Int.j0 k a0 a1 true) else ((environref03_digits.f k a1 0).bind fun t517 => (environref03_Int.j0 k a0 a1 (t517 != (a1.size : Int))))) else (some (0, bt515.2)))) = some (r1, r2) := h
 clear h
 replace H := Option.bind_eq_some_iff.mp H
 obtain ⟨⟨t515, t516⟩, A30, H⟩ := H
 try dsimp only at H
 have A3 := Aside0.mk A30
 clear A30
 by_cases c4 : t516 = 0
 ·rw [if_pos c4] at H
  have c4b0 := beq_iff_eq.mpr c4
  have c4b1 := bne_eq_false_iff_eq.mpr c4
  clear c4
  have HC5 := Aside0.mk H
  clear H
  go_enter Tryz.func67, Tryz.ntmps67
  go_upto_region 4 with (first | (refine gc 64 ?_; refine gl (some 11) Tryz.func64 #[.int .i64 a0] ?_; (with_reducible refine (environref01_Max.calls a0 t515 t516 _ A3.out).mono ?_); rintro e w' ⟨rfl, ⟨nd, rfl⟩⟩; refine ⟨_, rfl, ?_⟩))
  (try simp only [sx])
  go_cut [26] (fun v26 wc => ∃ (kq : Nat) (x26_4 : Bool), v26 = .bool x26_4 ∧ Aside0 (environref03_Int.j0 kq a0 a1 x26_4 = some (r1, r2)) ∧ Aside0 (kq ≤ k) ∧ Aside0 (Below w.heap.size w wc))
  case first =>
   have H := HC5.out
   clear HC5
   by_cases c6 : (a1.size : Int) = 0
   ·rw [if_pos c6] at H
    have c6b0 := beq_iff_eq.mpr c6
    have c6b1 := bne_eq_false_iff_eq.mpr c6
    clear c6
    (first | rw [c6b0] | (simp only [i64_w, i32_w]; rw [c6b0]) | skip)
    have H' := Aside0.mk H
    clear H
    go_wp2
    go_meet
    case rel => exact ⟨_, (true), q1, H', ko, ⟨bw HB⟩⟩
   ·rw [if_neg c6] at H
    have c6b0 := beq_eq_false_iff_ne.mpr c6
    have c6b1 := bne_iff_ne.mpr c6
    (first | rw [c6b0] | (simp only [i64_w, i32_w]; rw [c6b0]) | skip)
    replace H := Option.bind_eq_some_iff.mp H
    obtain ⟨t517, A70, H⟩ := H
    try dsimp only at H
    have A7 := Aside0.mk A70
    clear A70
    have H' := Aside0.mk H
    clear H
    go_wp2_with (first | (go_at_call 66; (with_reducible refine (environref03_digits.calls k a1 0 t517 _ A7.out).mono ?_); rintro e w' ⟨rfl, ⟨nd, rfl⟩⟩))
    go_meet
    case rel => exact ⟨_, ((t517 != (a1.size : Int))), q1, H', ko, ⟨bw HB⟩⟩
  case rest =>
   clear HC5
   try clear c4
   try clear c4b0
   try clear c4b1
   obtain ⟨kq, x26_4, rfl, HA, HJ4, HB⟩ := hcut
   cases kq with
   | zero => exact absurd HA.out (by simp [environref03_Int.j0])
   | succ kj4 =>
    have H := HA.out
    clear HA
    simp only [environref03_Int.j0] at H
    by_cases c8 : x26_4 = true
    ·subst c8
     rw [if_pos rfl] at H
     simp only [Option.some.injEq, Prod.mk.injEq] at H
     obtain ⟨rfl, rfl⟩ := H
     go_wp2
     go_ret2
     exact ⟨by first | rfl | (simp [errW_none, errW_some] <;> rfl) | (simp [*, errW_none, errW_some] <;> rfl), bw HB⟩
    ·replace c8 := Bool.eq_false_iff.mpr c8
     subst c8
     rw [if_neg (show ¬ (false = true) by decide)] at H
     replace H := Option.bind_eq_some_iff.mp H
     obtain ⟨t518, A90, H⟩ := H
     try dsimp only at H
     have A9 := Aside0.mk A90
     clear A90
     replace H := Option.bind_eq_some_iff.mp H
     obtain ⟨t519, A100, H⟩ := H
     try dsimp only at H
     have A10 := Aside0.mk A100
     clear A100
     by_cases c11 : t519 = true
     ·subst c11
      rw [if_pos rfl] at H
      simp only [Option.some.injEq, Prod.mk.injEq] at H
      obtain ⟨rfl, rfl⟩ := H
      go_wp2_with (first | (refine gc 100 ?_; refine gl (some 28) Tryz.func100 #[.string a1] ?_; (with_reducible refine (environref03_value.calls kj4 a1 t518 _ A9.out).mono ?_); rintro e w12 ⟨rfl, hb⟩; refine ⟨_, rfl, ?_⟩; replace HB := bt_ HB hb; (try clear hb)) | (refine gc 101 ?_; refine gl (some 31) Tryz.func101 #[.int .i64 a0, .int .i64 t518] ?_; (with_reducible refine (environref01_Is.calls a0 t518 true _ A10.out).mono ?_); rintro e w' ⟨rfl, ⟨nd, rfl⟩⟩; refine ⟨_, rfl, ?_⟩))
      go_ret2
      exact ⟨by first | rfl | (simp [errW_none, errW_some] <;> rfl) | (simp [*, errW_none, errW_some] <;> rfl), bw HB⟩
     ·replace c11 := Bool.eq_false_iff.mpr c11
      subst c11
      rw [if_neg (show ¬ (false = true) by decide)] at H
      simp only [Option.some.injEq, Prod.mk.injEq] at H
      obtain ⟨rfl, rfl⟩ := H
      go_wp2_with (first | (refine gc 100 ?_; refine gl (some 28) Tryz.func100 #[.string a1] ?_; (with_reducible refine (environref03_value.calls kj4 a1 t518 _ A9.out).mono ?_); rintro e w13 ⟨rfl, hb⟩; refine ⟨_, rfl, ?_⟩; replace HB := bt_ HB hb; (try clear hb)) | (refine gc 101 ?_; refine gl (some 31) Tryz.func101 #[.int .i64 a0, .int .i64 t518] ?_; (with_reducible refine (environref01_Is.calls a0 t518 false _ A10.out).mono ?_); rintro e w' ⟨rfl, ⟨nd, rfl⟩⟩; refine ⟨_, rfl, ?_⟩))
      go_ret2
      exact ⟨by first | rfl | (simp [errW_none, errW_some] <;> rfl) | (simp [*, errW_none, errW_some] <;> rfl), bw HB⟩
 ·rw [if_neg c4] at H
  have c4b0 := beq_eq_false_iff_ne.mpr c4
  have c4b1 := bne_iff_ne.mpr c4
  simp only [Option.some.injEq, Prod.mk.injEq] at H
  obtain ⟨rfl, rfl⟩ := H
  go_enter Tryz.func67, Tryz.ntmps67
  go_wp2_with (first | (refine gc 64 ?_; refine gl (some 11) Tryz.func64 #[.int .i64 a0] ?_; (with_reducible refine (environref01_Max.calls a0 t515 t516 _ A3.out).mono ?_); rintro e w' ⟨rfl, ⟨nd, rfl⟩⟩; refine ⟨_, rfl, ?_⟩))
  go_ret2
  exact ⟨by first | rfl | (simp [errW_none, errW_some] <;> rfl) | (simp [*, errW_none, errW_some] <;> rfl), bw HB⟩

/-! ### environref03_ReadInt: function 19 -/
def environref03_ReadInt.f (k : Nat) (a0 : Int) (a1 : ByteArray) : Option (Int × Int × Int) := (environref01_Max.f a0).bind fun bt520 => (if bt520.2 = 0 then ((environref03_begin.f k a1).bind fun bt522 => (if bt522.2.2 = 0 then ((environref03_digits.f k a1 bt522.1).bind fun t525 => (if t525 = 0 then (some (0, bt522.1, 9)) else (if 0 ≤ bt522.1 then (if bt522.1 ≤ (wrap64 (bt522.1 + t525)) then (if (wrap64 (bt522.1 + t525)) ≤ (a1.size : Int) then ((environref03_Int.f k a0 (a1.extract (bt522.1 : Int).toNat ((wrap64 (bt522.1 + t525)) : Int).toNat)).bind fun bt526 => (if bt522.2.1 = true then (some (wrap64 (-bt526.1), wrap64 (bt522.1 + t525), bt526.2)) else (some (bt526.1, wrap64 (bt522.1 + t525), bt526.2)))) else (none)) else (none)) else (none)))) else (some (0, bt522.1, bt522.2.2)))) else (some (0, 0, bt520.2)))
theorem environref03_ReadInt.mono : ∀ a0 a1 k, LeO (environref03_ReadInt.f k a0 a1) (environref03_ReadInt.f (k + 1) a0 a1) := by
 intro a0 a1 k
 unfold environref03_ReadInt.f
 repeat' first
   | (with_reducible exact LeO.refl _)
   | exact environref03_Int.mono _ _ _
   | exact environref03_begin.mono _ _
   | exact environref03_digits.mono _ _ _
   | exact LeO.none _
   | refine LeO.ite ?_ ?_
   | refine LeO.bind ?_ (fun _ => ?_)
set_option maxHeartbeats 8000000 in
set_option maxRecDepth 100000 in
theorem environref03_ReadInt.calls (k : Nat) (a0 : Int) (a1 : ByteArray) (r1 : Int) (r2 : Int) (r3 : Int) (w : World) (h : environref03_ReadInt.f k a0 a1 = some (r1, r2, r3)) :
  Calls Tryz.prog 19 #[.int .i64 a0, .string a1] w fun e w' => e = .returned (.tuple #[.int .i64 r1, .int .i64 r2, .int .i64 r3]) ∧ Below w.heap.size w w' := by
 have HB := Aside0.mk (Below.refl w.heap.size w)
 have H : ((environref01_Max.f a0).bind fun bt520 => (if bt520.2 = 0 then ((environref03_begin.f k a1).bind fun bt522 => (if bt522.2.2 = 0 then ((environref03_digits.f k a1 bt522.1).bind fun t525 => (if t525 = 0 then (some (0, bt522.1, 9)) else (if 0 ≤ bt522.1 then (if bt522.1 ≤ (wrap64 (bt522.1 + t525)) then (if (wrap64 (bt522.1 + t525)) ≤ (a1.size : Int) then ((environref03_Int.f k a0 (a1.extract (bt522.1 : Int).toNat ((wrap64 (bt522.1 + t525)) : Int).toNat)).bind fun bt526 => (if bt522.2.1 = true then (some (wrap64 (-bt526.1), wrap64 (bt522.1 + t525), bt526.2)) else (some (bt526.1, wrap64 (bt522.1 + t525), bt526.2)))) else (none)) else (none)) else (none)))) else (some (0, bt522.1, bt522.2.2)))) else (some (0, 0, bt520.2)))) = some (r1, r2, r3) := h
 clear h
 replace H := Option.bind_eq_some_iff.mp H
 obtain ⟨⟨t520, t521⟩, A30, H⟩ := H
 try dsimp only at H
 have A3 := Aside0.mk A30
 clear A30
 by_cases c4 : t521 = 0
 ·rw [if_pos c4] at H
  have c4b0 := beq_iff_eq.mpr c4
  have c4b1 := bne_eq_false_iff_eq.mpr c4
  clear c4
  replace H := Option.bind_eq_some_iff.mp H
  obtain ⟨⟨t522, t523, t524⟩, A50, H⟩ := H
  try dsimp only at H
  have A5 := Aside0.mk A50
  clear A50
  by_cases c6 : t524 = 0
  ·rw [if_pos c6] at H
   have c6b0 := beq_iff_eq.mpr c6
   have c6b1 := bne_eq_false_iff_eq.mpr c6
   clear c6
   replace H := Option.bind_eq_some_iff.mp H
   obtain ⟨t525, A70, H⟩ := H
   try dsimp only at H
   have A7 := Aside0.mk A70
   clear A70
   by_cases c8 : t525 = 0
   ·rw [if_pos c8] at H
    have c8b0 := beq_iff_eq.mpr c8
    have c8b1 := bne_eq_false_iff_eq.mpr c8
    clear c8
    simp only [Option.some.injEq, Prod.mk.injEq] at H
    obtain ⟨rfl, rfl, rfl⟩ := H
    go_enter Tryz.func19, Tryz.ntmps19
    go_wp2_with (first | (refine gc 64 ?_; refine gl (some 16) Tryz.func64 #[.int .i64 a0] ?_; (with_reducible refine (environref01_Max.calls a0 t520 t521 _ A3.out).mono ?_); rintro e w' ⟨rfl, ⟨nd, rfl⟩⟩; refine ⟨_, rfl, ?_⟩) | (refine gc 65 ?_; refine gl (some 24) Tryz.func65 #[.string a1] ?_; (with_reducible refine (environref03_begin.calls k a1 t522 t523 t524 _ A5.out).mono ?_); rintro e w' ⟨rfl, ⟨nd, rfl⟩⟩; refine ⟨_, rfl, ?_⟩) | (refine gc 66 ?_; refine gl (some 34) Tryz.func66 #[.string a1, .int .i64 t522] ?_; (with_reducible refine (environref03_digits.calls k a1 t522 t525 _ A7.out).mono ?_); rintro e w' ⟨rfl, ⟨nd, rfl⟩⟩; refine ⟨_, rfl, ?_⟩))
    go_ret3
    exact ⟨by first | rfl | (simp [errW_none, errW_some] <;> rfl) | (simp [*, errW_none, errW_some] <;> rfl), bw HB⟩
   ·rw [if_neg c8] at H
    have c8b0 := beq_eq_false_iff_ne.mpr c8
    have c8b1 := bne_iff_ne.mpr c8
    by_cases c9 : 0 ≤ t522
    ·rw [if_pos c9] at H
     have c9b0 := eq_true c9
     have c9b1 := decide_eq_true c9
     clear c9
     by_cases c10 : t522 ≤ (wrap64 (t522 + t525))
     ·rw [if_pos c10] at H
      have c10b0 := eq_true c10
      have c10b1 := decide_eq_true c10
      by_cases c11 : (wrap64 (t522 + t525)) ≤ (a1.size : Int)
      ·rw [if_pos c11] at H
       have c11b0 := eq_true c11
       have c11b1 := decide_eq_true c11
       replace H := Option.bind_eq_some_iff.mp H
       obtain ⟨⟨t526, t527⟩, A120, H⟩ := H
       try dsimp only at H
       have A12 := Aside0.mk A120
       clear A120
       by_cases c13 : t523 = true
       ·subst c13
        rw [if_pos rfl] at H
        simp only [Option.some.injEq, Prod.mk.injEq] at H
        obtain ⟨rfl, rfl, rfl⟩ := H
        go_enter Tryz.func19, Tryz.ntmps19
        go_wp2_with (first | (refine gc 64 ?_; refine gl (some 16) Tryz.func64 #[.int .i64 a0] ?_; (with_reducible refine (environref01_Max.calls a0 t520 t521 _ A3.out).mono ?_); rintro e w' ⟨rfl, ⟨nd, rfl⟩⟩; refine ⟨_, rfl, ?_⟩) | (refine gc 65 ?_; refine gl (some 24) Tryz.func65 #[.string a1] ?_; (with_reducible refine (environref03_begin.calls k a1 t522 true t524 _ A5.out).mono ?_); rintro e w' ⟨rfl, ⟨nd, rfl⟩⟩; refine ⟨_, rfl, ?_⟩) | (refine gc 66 ?_; refine gl (some 34) Tryz.func66 #[.string a1, .int .i64 t522] ?_; (with_reducible refine (environref03_digits.calls k a1 t522 t525 _ A7.out).mono ?_); rintro e w' ⟨rfl, ⟨nd, rfl⟩⟩; refine ⟨_, rfl, ?_⟩) | (refine gc 67 ?_; refine gl (some 46) Tryz.func67 #[.int .i64 a0, .string (a1.extract (t522 : Int).toNat ((wrap64 (t522 + t525)) : Int).toNat)] ?_; (with_reducible refine (environref03_Int.calls k a0 (a1.extract (t522 : Int).toNat ((wrap64 (t522 + t525)) : Int).toNat) t526 t527 _ A12.out).mono ?_); rintro e w14 ⟨rfl, hb⟩; refine ⟨_, rfl, ?_⟩; replace HB := bt_ HB hb; (try clear hb)))
        go_ret3
        exact ⟨by first | rfl | (simp [errW_none, errW_some] <;> rfl) | (simp [*, errW_none, errW_some] <;> rfl), bw HB⟩
       ·replace c13 := Bool.eq_false_iff.mpr c13
        subst c13
        rw [if_neg (show ¬ (false = true) by decide)] at H
        simp only [Option.some.injEq, Prod.mk.injEq] at H
        obtain ⟨rfl, rfl, rfl⟩ := H
        go_enter Tryz.func19, Tryz.ntmps19
        go_wp2_with (first | (refine gc 64 ?_; refine gl (some 16) Tryz.func64 #[.int .i64 a0] ?_; (with_reducible refine (environref01_Max.calls a0 t520 t521 _ A3.out).mono ?_); rintro e w' ⟨rfl, ⟨nd, rfl⟩⟩; refine ⟨_, rfl, ?_⟩) | (refine gc 65 ?_; refine gl (some 24) Tryz.func65 #[.string a1] ?_; (with_reducible refine (environref03_begin.calls k a1 t522 false t524 _ A5.out).mono ?_); rintro e w' ⟨rfl, ⟨nd, rfl⟩⟩; refine ⟨_, rfl, ?_⟩) | (refine gc 66 ?_; refine gl (some 34) Tryz.func66 #[.string a1, .int .i64 t522] ?_; (with_reducible refine (environref03_digits.calls k a1 t522 t525 _ A7.out).mono ?_); rintro e w' ⟨rfl, ⟨nd, rfl⟩⟩; refine ⟨_, rfl, ?_⟩) | (refine gc 67 ?_; refine gl (some 46) Tryz.func67 #[.int .i64 a0, .string (a1.extract (t522 : Int).toNat ((wrap64 (t522 + t525)) : Int).toNat)] ?_; (with_reducible refine (environref03_Int.calls k a0 (a1.extract (t522 : Int).toNat ((wrap64 (t522 + t525)) : Int).toNat) t526 t527 _ A12.out).mono ?_); rintro e w15 ⟨rfl, hb⟩; refine ⟨_, rfl, ?_⟩; replace HB := bt_ HB hb; (try clear hb)))
        go_ret3
        exact ⟨by first | rfl | (simp [errW_none, errW_some] <;> rfl) | (simp [*, errW_none, errW_some] <;> rfl), bw HB⟩
      ·rw [if_neg c11] at H
       exact absurd H (by simp)
     ·rw [if_neg c10] at H
      exact absurd H (by simp)
    ·rw [if_neg c9] at H
     exact absurd H (by simp)
  ·rw [if_neg c6] at H
   have c6b0 := beq_eq_false_iff_ne.mpr c6
   have c6b1 := bne_iff_ne.mpr c6
   simp only [Option.some.injEq, Prod.mk.injEq] at H
   obtain ⟨rfl, rfl, rfl⟩ := H
   go_enter Tryz.func19, Tryz.ntmps19
   go_wp2_with (first | (refine gc 64 ?_; refine gl (some 16) Tryz.func64 #[.int .i64 a0] ?_; (with_reducible refine (environref01_Max.calls a0 t520 t521 _ A3.out).mono ?_); rintro e w' ⟨rfl, ⟨nd, rfl⟩⟩; refine ⟨_, rfl, ?_⟩) | (refine gc 65 ?_; refine gl (some 24) Tryz.func65 #[.string a1] ?_; (with_reducible refine (environref03_begin.calls k a1 t522 t523 t524 _ A5.out).mono ?_); rintro e w' ⟨rfl, ⟨nd, rfl⟩⟩; refine ⟨_, rfl, ?_⟩))
   go_ret3
   exact ⟨by first | rfl | (simp [errW_none, errW_some] <;> rfl) | (simp [*, errW_none, errW_some] <;> rfl), bw HB⟩
 ·rw [if_neg c4] at H
  have c4b0 := beq_eq_false_iff_ne.mpr c4
  have c4b1 := bne_iff_ne.mpr c4
  simp only [Option.some.injEq, Prod.mk.injEq] at H
  obtain ⟨rfl, rfl, rfl⟩ := H
  go_enter Tryz.func19, Tryz.ntmps19
  go_wp2_with (first | (refine gc 64 ?_; refine gl (some 16) Tryz.func64 #[.int .i64 a0] ?_; (with_reducible refine (environref01_Max.calls a0 t520 t521 _ A3.out).mono ?_); rintro e w' ⟨rfl, ⟨nd, rfl⟩⟩; refine ⟨_, rfl, ?_⟩))
  go_ret3
  exact ⟨by first | rfl | (simp [errW_none, errW_some] <;> rfl) | (simp [*, errW_none, errW_some] <;> rfl), bw HB⟩
end Go.Proofs.YtckbmniiecbalaaGreatDoor.PT
