-- written by a program of this session out of the kit's print (its words and its form)
import Derived.Test.YtckbmniiecbalaaGreatDoorPTgTh
import Derived.Test.YtckbmniiecbalaaGreatDoorPTgTk
import Derived.Test.YtckbmniiecbalaaGreatDoorPTsq
import Derived.Test.YtckbmniiecbalaaGreatDoorPTx0
namespace Go.Proofs.YtckbmniiecbalaaGreatDoor.PT
open Go.RowKit Go.Proofs.YtckbmniiecbalaaGreatDoorW.PrintWords Go.Proofs.YtckbmniiecbalaaGreatDoorW.PrintLast Go.Proofs.YtckbmniiecbalaaGreatDoorW.PrintMore
attribute [local go_sem] max2_int min2_int max_two min_two max_three min_three max_four min_four   -- for this text's walks alone
set_option linter.unusedVariables false
set_option linter.unusedSimpArgs false

/-! ### texts_ReadWord: function 22 -/
mutual
def texts_ReadWord.l0 : Nat → ByteArray → Int → Int → Int → Int → Option (Int × Int × Int)
 | 0, _, _, _, _, _ => none
 | k + 1, x1, x9, x11, x30, x31 => if x31 < x30 then (if x9 = (x1.size : Int) then (texts_ReadWord.j1 k x1 x9 x11 x30 x31 true) else (if 0 ≤ x9 then (if x9 < (x1.size : Int) then (if (bt x1 x9) = 84 then (texts_ReadWord.j1 k x1 x9 x11 x30 x31 false) else (texts_ReadWord.j1 k x1 x9 x11 x30 x31 ((bt x1 x9) != 70))) else (none)) else (none))) else (some (x11, x9, 0))
def texts_ReadWord.j1 : Nat → ByteArray → Int → Int → Int → Int → Bool → Option (Int × Int × Int)
 | 0, _, _, _, _, _, _ => none
 | k + 1, x1, x9, x11, x30, x31, x48 => if x48 = true then (some (0, x9, 9)) else (if 0 ≤ x9 then (if x9 < (x1.size : Int) then (if (bt x1 x9) = 84 then (texts_ReadWord.l0 k x1 (wrap64 (x9 + 1)) (wrap64 ((wrap64 (x11 * 2)) + 1)) x30 (wrap64 (x31 + 1))) else (texts_ReadWord.l0 k x1 (wrap64 (x9 + 1)) (wrap64 (x11 * 2)) x30 (wrap64 (x31 + 1)))) else (none)) else (none))
end
def texts_ReadWord.f (k : Nat) (a0 : Int) (a1 : ByteArray) : Option (Int × Int × Int) := (ints_Width.f a0).bind fun bt668 => (if bt668.2 = 0 then ((texts_start.f k a1 (⟨#[]⟩ : ByteArray)).bind fun bt670 => (if bt670.2.2 = 0 then (texts_ReadWord.l0 k a1 bt670.1 0 bt668.1 0) else (some (0, bt670.1, bt670.2.2)))) else (some (0, 0, bt668.2)))
theorem texts_ReadWord.mono_l : ∀ k, (∀ y0 y1 y2 y3 y4, LeO (texts_ReadWord.l0 k y0 y1 y2 y3 y4) (texts_ReadWord.l0 (k + 1) y0 y1 y2 y3 y4)) ∧ (∀ y0 y1 y2 y3 y4 y5, LeO (texts_ReadWord.j1 k y0 y1 y2 y3 y4 y5) (texts_ReadWord.j1 (k + 1) y0 y1 y2 y3 y4 y5))
 | 0 => ⟨fun _ _ _ _ _ r h => by simp [texts_ReadWord.l0] at h, fun _ _ _ _ _ _ r h => by simp [texts_ReadWord.j1] at h⟩
 | k + 1 => by
  obtain ⟨ih0, ih1⟩ := texts_ReadWord.mono_l k
  refine ⟨?_, ?_⟩
  ·intro y0 y1 y2 y3 y4
   unfold texts_ReadWord.l0
   repeat' first
   | (with_reducible exact ih0 _ _ _ _ _)
   | (with_reducible exact ih1 _ _ _ _ _ _)
   | (with_reducible exact texts_start.mono _ _ _)
   | (with_reducible exact LeO.refl _)
   | (with_reducible exact LeO.none _)
   | (with_reducible refine LeO.ite ?_ ?_)
   | (with_reducible refine LeO.bind ?_ (fun _ => ?_))
   | exact ih0 _ _ _ _ _
   | exact ih1 _ _ _ _ _ _
   | exact texts_start.mono _ _ _
   | exact LeO.none _
   | refine LeO.ite ?_ ?_
   | refine LeO.bind ?_ (fun _ => ?_)
  ·intro y0 y1 y2 y3 y4 y5
   unfold texts_ReadWord.j1
   repeat' first
   | (with_reducible exact ih0 _ _ _ _ _)
   | (with_reducible exact ih1 _ _ _ _ _ _)
   | (with_reducible exact texts_start.mono _ _ _)
   | (with_reducible exact LeO.refl _)
   | (with_reducible exact LeO.none _)
   | (with_reducible refine LeO.ite ?_ ?_)
   | (with_reducible refine LeO.bind ?_ (fun _ => ?_))
   | exact ih0 _ _ _ _ _
   | exact ih1 _ _ _ _ _ _
   | exact texts_start.mono _ _ _
   | exact LeO.none _
   | refine LeO.ite ?_ ?_
   | refine LeO.bind ?_ (fun _ => ?_)
theorem texts_ReadWord.mono : ∀ a0 a1 k, LeO (texts_ReadWord.f k a0 a1) (texts_ReadWord.f (k + 1) a0 a1) := by
 intro a0 a1 k
 obtain ⟨ih0, ih1⟩ := texts_ReadWord.mono_l k
 unfold texts_ReadWord.f
 repeat' first
   | (with_reducible exact ih0 _ _ _ _ _)
   | (with_reducible exact ih1 _ _ _ _ _ _)
   | (with_reducible exact texts_start.mono _ _ _)
   | (with_reducible exact LeO.refl _)
   | (with_reducible exact LeO.none _)
   | (with_reducible refine LeO.ite ?_ ?_)
   | (with_reducible refine LeO.bind ?_ (fun _ => ?_))
   | exact ih0 _ _ _ _ _
   | exact ih1 _ _ _ _ _ _
   | exact texts_start.mono _ _ _
   | exact LeO.none _
   | refine LeO.ite ?_ ?_
   | refine LeO.bind ?_ (fun _ => ?_)
set_option maxHeartbeats 8000000 in
set_option maxRecDepth 100000 in
theorem texts_ReadWord.calls (k : Nat) (a0 : Int) (a1 : ByteArray) (r1 : Int) (r2 : Int) (r3 : Int) (w : World) (h : texts_ReadWord.f k a0 a1 = some (r1, r2, r3)) :
  Calls Tryz.prog 22 #[.int .i64 a0, .string a1] w fun e w' => e = .returned (.tuple #[.int .i64 r1, .int .i64 r2, .int .i64 r3]) ∧ Below w.heap.size w w' := by
 have HB := Aside0.mk (Below.refl w.heap.size w)
 have H : ((ints_Width.f a0).bind fun bt668 => (if bt668.2 = 0 then ((texts_start.f k a1 (⟨#[]⟩ : ByteArray)).bind fun bt670 => (if bt670.2.2 = 0 then (texts_ReadWord.l0 k a1 bt670.1 0 bt668.1 0) else (some (0, bt670.1, bt670.2.2)))) else (some (0, 0, bt668.2)))) = some (r1, r2, r3) := h
 clear h
 replace H := Option.bind_eq_some_iff.mp H
 obtain ⟨⟨t668, t669⟩, A30, H⟩ := H
 replace H : (if t669 = 0 then ((texts_start.f k a1 (⟨#[]⟩ : ByteArray)).bind fun bt670 => (if bt670.2.2 = 0 then (texts_ReadWord.l0 k a1 bt670.1 0 t668 0) else (some (0, bt670.1, bt670.2.2)))) else (some (0, 0, t669))) = some (r1, r2, r3) := H
 have A3 := Aside0.mk A30
 clear A30
 by_cases c4 : t669 = 0
 ·rw [if_pos c4] at H
  have c4b0 : (t669 == 0) = true := beq_iff_eq.mpr c4
  have c4b1 : (t669 != 0) = false := bne_eq_false_iff_eq.mpr c4
  clear c4
  replace H := Option.bind_eq_some_iff.mp H
  obtain ⟨⟨t670, t671, t672⟩, A50, H⟩ := H
  replace H : (if t672 = 0 then (texts_ReadWord.l0 k a1 t670 0 t668 0) else (some (0, t670, t672))) = some (r1, r2, r3) := H
  have A5 := Aside0.mk A50
  clear A50
  by_cases c6 : t672 = 0
  ·rw [if_pos c6] at H
   have c6b0 : (t672 == 0) = true := beq_iff_eq.mpr c6
   have c6b1 : (t672 != 0) = false := bne_eq_false_iff_eq.mpr c6
   clear c6
   have H' := Aside0.mk H
   clear H
   go_enter Tryz.func22, Tryz.ntmps22
   go_wp2_with (first | ((with_reducible refine gate_callee (f := 55) rfl ?_); refine goesL_ (some 14) rfl rfl Tryz.func55 (by kernel_rfl) rfl #[.int .i64 a0] rfl (by (try simp only [List.map_toArray, List.map_cons, List.map_nil]); first | done | rfl | (simp only [List.length_drop, List.length_take]; rfl)) ?_; (with_reducible refine (ints_Width.calls a0 t668 t669 _ A3.out).mono ?_); rintro e w7 ⟨rfl, hb⟩; refine ⟨_, rfl, ?_⟩; replace HB := Aside0.mk (below_step (bw HB) hb); (try clear hb); (try clear hb2); (try clear hk); (try clear hi)) | ((with_reducible refine gate_callee (f := 61) rfl ?_); refine goesL_ (some 22) rfl rfl Tryz.func61 (by kernel_rfl) rfl #[.string a1, .string (⟨#[]⟩ : ByteArray)] rfl (by (try simp only [List.map_toArray, List.map_cons, List.map_nil]); first | done | rfl | (simp only [List.length_drop, List.length_take]; rfl)) ?_; (with_reducible refine (texts_start.calls k a1 (⟨#[]⟩ : ByteArray) t670 t671 t672 _ A5.out).mono ?_); rintro e w' ⟨rfl, ⟨nd, rfl⟩⟩; refine ⟨_, rfl, ?_⟩))
   go_loopg [9, 11, 31] k (fun kq v9 v11 v31 w' => ∃ (x9_1 : Int) (x11_1 : Int) (x31_1 : Int), v9 = .int .i64 x9_1 ∧ v11 = .int .i64 x11_1 ∧ v31 = .int .i64 x31_1 ∧ Aside0 (texts_ReadWord.l0 kq a1 x9_1 x11_1 t668 x31_1 = some (r1, r2, r3)) ∧ Aside0 (kq ≤ k) ∧ Aside0 (Below w.heap.size w w'))
   case atStart => exact ⟨(t670), (0), (0), (by first | rfl | (simp; done) | (simp [*]; done)), (by first | rfl | (simp; done) | (simp [*]; done)), (by first | rfl | (simp; done) | (simp [*]; done)), H', ⟨Nat.le_refl _⟩, ⟨bw HB⟩⟩
   case round =>
    clear H'
    try clear c2
    try clear p2
    try clear c4
    try clear c4b0
    try clear c4b1
    try clear c5
    try clear c6
    try clear c6b0
    try clear c6b1
    obtain ⟨x9_1, x11_1, x31_1, rfl, rfl, rfl, HA, HK1, HB⟩ := hrel
    cases gk with
    | zero => exact absurd HA.out (by simp [texts_ReadWord.l0])
    | succ k1 =>
     have H := HA.out
     clear HA
     simp only [texts_ReadWord.l0] at H
     by_cases c8 : x31_1 < t668
     ·rw [if_pos c8] at H
      have c8b0 : decide (x31_1 < t668) = true := decide_eq_true c8
      clear c8
      have HC9 := Aside0.mk H
      clear H
      go_upto_region 10 with (fail)
      go_cut [48] (fun v48 wc => ∃ (kq : Nat) (x48_8 : Bool), v48 = .bool x48_8 ∧ Aside0 (texts_ReadWord.j1 kq a1 x9_1 x11_1 t668 x31_1 x48_8 = some (r1, r2, r3)) ∧ Aside0 (kq ≤ k1) ∧ Aside0 (Below w.heap.size w wc))
      case first =>
       have H := HC9.out
       clear HC9
       by_cases c10 : x9_1 = (a1.size : Int)
       ·rw [if_pos c10] at H
        have c10b0 : (x9_1 == (a1.size : Int)) = true := beq_iff_eq.mpr c10
        have c10b1 : (x9_1 != (a1.size : Int)) = false := bne_eq_false_iff_eq.mpr c10
        clear c10
        (first | rw [c10b0] | (simp only [i64_w, i32_w]; rw [c10b0]) | skip)
        have H' := Aside0.mk H
        clear H
        go_wp2
        go_meet
        case rel => exact ⟨_, (true), (by first | rfl | (simp; done) | (simp [*]; done)), H', ⟨by have := HK1.out; first | omega | exact Nat.le_refl _⟩, ⟨bw HB⟩⟩
       ·rw [if_neg c10] at H
        have c10b0 : (x9_1 == (a1.size : Int)) = false := beq_eq_false_iff_ne.mpr c10
        have c10b1 : (x9_1 != (a1.size : Int)) = true := bne_iff_ne.mpr c10
        (first | rw [c10b0] | (simp only [i64_w, i32_w]; rw [c10b0]) | skip)
        by_cases c11 : 0 ≤ x9_1
        ·rw [if_pos c11] at H
         have c11b0 : decide (0 ≤ x9_1) = true := decide_eq_true c11
         clear c11
         by_cases c12 : x9_1 < (a1.size : Int)
         ·rw [if_pos c12] at H
          have c12b0 : decide (x9_1 < (a1.size : Int)) = true := decide_eq_true c12
          clear c12
          by_cases c14 : (bt a1 x9_1) = 84
          ·rw [if_pos c14] at H
           have c14b0 : ((bt a1 x9_1) == 84) = true := beq_iff_eq.mpr c14
           have c14b1 : ((bt a1 x9_1) != 84) = false := bne_eq_false_iff_eq.mpr c14
           clear c14
           have H' := Aside0.mk H
           clear H
           have p13 : 0 ≤ (x9_1 : Int) := of_decide_eq_true (by first | (with_reducible assumption) | assumption)
           have q13 : x9_1 < (a1.size : Int) := of_decide_eq_true (by first | (with_reducible assumption) | assumption)
           have hx13 := bt_at a1 x9_1
           replace p13 := eq_true p13
           replace q13 := eq_true q13
           go_wp2
           go_meet
           case rel => exact ⟨_, (false), (by first | rfl | (simp; done) | (simp [*]; done)), H', ⟨by have := HK1.out; first | omega | exact Nat.le_refl _⟩, ⟨bw HB⟩⟩
          ·rw [if_neg c14] at H
           have c14b0 : ((bt a1 x9_1) == 84) = false := beq_eq_false_iff_ne.mpr c14
           have c14b1 : ((bt a1 x9_1) != 84) = true := bne_iff_ne.mpr c14
           have H' := Aside0.mk H
           clear H
           have p13 : 0 ≤ (x9_1 : Int) := of_decide_eq_true (by first | (with_reducible assumption) | assumption)
           have q13 : x9_1 < (a1.size : Int) := of_decide_eq_true (by first | (with_reducible assumption) | assumption)
           have hx13 := bt_at a1 x9_1
           replace p13 := eq_true p13
           replace q13 := eq_true q13
           have p15 : 0 ≤ (x9_1 : Int) := of_decide_eq_true (by first | (with_reducible assumption) | assumption)
           have q15 : x9_1 < (a1.size : Int) := of_decide_eq_true (by first | (with_reducible assumption) | assumption)
           have hx15 := bt_at a1 x9_1
           replace p15 := eq_true p15
           replace q15 := eq_true q15
           go_wp2
           go_meet
           case rel => exact ⟨_, (((bt a1 x9_1) != 70)), (by first | rfl | (simp; done) | (simp [*]; done)), H', ⟨by have := HK1.out; first | omega | exact Nat.le_refl _⟩, ⟨bw HB⟩⟩
         ·rw [if_neg c12] at H
          exact absurd H (by simp)
        ·rw [if_neg c11] at H
         exact absurd H (by simp)
      case rest =>
       clear HC9
       try clear c1
       try clear p1
       try clear q1
       try clear hx1
       try clear c2
       try clear p2
       try clear c4
       try clear c4b0
       try clear c4b1
       try clear c5
       try clear c6
       try clear c6b0
       try clear c6b1
       try clear c8
       try clear c8b0
       try clear c10
       try clear c10b0
       try clear c10b1
       try clear c11
       try clear c11b0
       try clear c12
       try clear c12b0
       try clear p13
       try clear q13
       try clear hx13
       try clear c14
       try clear c14b0
       try clear c14b1
       try clear p15
       try clear q15
       try clear hx15
       try clear p13
       try clear p15
       try clear p2
       try clear q13
       try clear q15
       obtain ⟨kq, x48_8, rfl, HA, HJ8, HB⟩ := hcut
       cases kq with
       | zero => exact absurd HA.out (by simp [texts_ReadWord.j1])
       | succ kj8 =>
        have H := HA.out
        clear HA
        simp only [texts_ReadWord.j1] at H
        by_cases c16 : x48_8 = true
        ·subst c16
         have H1 : (some (0, x9_1, 9)) = some (r1, r2, r3) := by rw [if_pos rfl] at H; exact H
         clear H
         have H := H1
         clear H1
         simp only [Option.some.injEq, Prod.mk.injEq] at H
         obtain ⟨rfl, rfl, rfl⟩ := H
         go_wp2
         go_ret3
         exact ⟨by first | rfl | (simp [errW_none, errW_some] <;> rfl) | (simp [*, errW_none, errW_some] <;> rfl), bw HB⟩
        ·replace c16 := Bool.eq_false_iff.mpr c16
         subst c16
         have H1 : (if 0 ≤ x9_1 then (if x9_1 < (a1.size : Int) then (if (bt a1 x9_1) = 84 then (texts_ReadWord.l0 kj8 a1 (wrap64 (x9_1 + 1)) (wrap64 ((wrap64 (x11_1 * 2)) + 1)) t668 (wrap64 (x31_1 + 1))) else (texts_ReadWord.l0 kj8 a1 (wrap64 (x9_1 + 1)) (wrap64 (x11_1 * 2)) t668 (wrap64 (x31_1 + 1)))) else (none)) else (none)) = some (r1, r2, r3) := by rw [if_neg (show ¬ (false = true) by decide)] at H; exact H
         clear H
         have H := H1
         clear H1
         by_cases c17 : 0 ≤ x9_1
         ·rw [if_pos c17] at H
          have c17b0 : decide (0 ≤ x9_1) = true := decide_eq_true c17
          clear c17
          by_cases c18 : x9_1 < (a1.size : Int)
          ·rw [if_pos c18] at H
           have c18b0 : decide (x9_1 < (a1.size : Int)) = true := decide_eq_true c18
           clear c18
           by_cases c20 : (bt a1 x9_1) = 84
           ·rw [if_pos c20] at H
            have c20b0 : ((bt a1 x9_1) == 84) = true := beq_iff_eq.mpr c20
            have c20b1 : ((bt a1 x9_1) != 84) = false := bne_eq_false_iff_eq.mpr c20
            clear c20
            have H' := Aside0.mk H
            clear H
            have p19 : 0 ≤ (x9_1 : Int) := of_decide_eq_true (by first | (with_reducible assumption) | assumption)
            have q19 : x9_1 < (a1.size : Int) := of_decide_eq_true (by first | (with_reducible assumption) | assumption)
            have hx19 := bt_at a1 x9_1
            replace p19 := eq_true p19
            replace q19 := eq_true q19
            go_wp2
            go_roundg kj8
            case measure => have := HK1.out; have := HJ8.out; omega
            case rel => exact ⟨(wrap64 (x9_1 + 1)), (wrap64 ((wrap64 (x11_1 * 2)) + 1)), (wrap64 (x31_1 + 1)), (by first | rfl | (simp; done) | (simp [*]; done)), (by first | rfl | (simp; done) | (simp [*]; done)), (by first | rfl | (simp; done) | (simp [*]; done)), H', ⟨by have := HK1.out; have := HJ8.out; omega⟩, ⟨bw HB⟩⟩
           ·rw [if_neg c20] at H
            have c20b0 : ((bt a1 x9_1) == 84) = false := beq_eq_false_iff_ne.mpr c20
            have c20b1 : ((bt a1 x9_1) != 84) = true := bne_iff_ne.mpr c20
            have H' := Aside0.mk H
            clear H
            have p19 : 0 ≤ (x9_1 : Int) := of_decide_eq_true (by first | (with_reducible assumption) | assumption)
            have q19 : x9_1 < (a1.size : Int) := of_decide_eq_true (by first | (with_reducible assumption) | assumption)
            have hx19 := bt_at a1 x9_1
            replace p19 := eq_true p19
            replace q19 := eq_true q19
            go_wp2
            go_roundg kj8
            case measure => have := HK1.out; have := HJ8.out; omega
            case rel => exact ⟨(wrap64 (x9_1 + 1)), (wrap64 (x11_1 * 2)), (wrap64 (x31_1 + 1)), (by first | rfl | (simp; done) | (simp [*]; done)), (by first | rfl | (simp; done) | (simp [*]; done)), (by first | rfl | (simp; done) | (simp [*]; done)), H', ⟨by have := HK1.out; have := HJ8.out; omega⟩, ⟨bw HB⟩⟩
          ·rw [if_neg c18] at H
           exact absurd H (by simp)
         ·rw [if_neg c17] at H
          exact absurd H (by simp)
     ·rw [if_neg c8] at H
      have c8b0 : decide (x31_1 < t668) = false := decide_eq_false c8
      clear c8
      simp only [Option.some.injEq, Prod.mk.injEq] at H
      obtain ⟨rfl, rfl, rfl⟩ := H
      go_wp2
      go_ret3
      exact ⟨by first | rfl | (simp [errW_none, errW_some] <;> rfl) | (simp [*, errW_none, errW_some] <;> rfl), bw HB⟩
  ·rw [if_neg c6] at H
   have c6b0 : (t672 == 0) = false := beq_eq_false_iff_ne.mpr c6
   have c6b1 : (t672 != 0) = true := bne_iff_ne.mpr c6
   simp only [Option.some.injEq, Prod.mk.injEq] at H
   obtain ⟨rfl, rfl, rfl⟩ := H
   go_enter Tryz.func22, Tryz.ntmps22
   go_wp2_with (first | ((with_reducible refine gate_callee (f := 55) rfl ?_); refine goesL_ (some 14) rfl rfl Tryz.func55 (by kernel_rfl) rfl #[.int .i64 a0] rfl (by (try simp only [List.map_toArray, List.map_cons, List.map_nil]); first | done | rfl | (simp only [List.length_drop, List.length_take]; rfl)) ?_; (with_reducible refine (ints_Width.calls a0 t668 t669 _ A3.out).mono ?_); rintro e w21 ⟨rfl, hb⟩; refine ⟨_, rfl, ?_⟩; replace HB := Aside0.mk (below_step (bw HB) hb); (try clear hb); (try clear hb2); (try clear hk); (try clear hi)) | ((with_reducible refine gate_callee (f := 61) rfl ?_); refine goesL_ (some 22) rfl rfl Tryz.func61 (by kernel_rfl) rfl #[.string a1, .string (⟨#[]⟩ : ByteArray)] rfl (by (try simp only [List.map_toArray, List.map_cons, List.map_nil]); first | done | rfl | (simp only [List.length_drop, List.length_take]; rfl)) ?_; (with_reducible refine (texts_start.calls k a1 (⟨#[]⟩ : ByteArray) t670 t671 t672 _ A5.out).mono ?_); rintro e w' ⟨rfl, ⟨nd, rfl⟩⟩; refine ⟨_, rfl, ?_⟩))
   go_ret3
   exact ⟨by first | rfl | (simp [errW_none, errW_some] <;> rfl) | (simp [*, errW_none, errW_some] <;> rfl), bw HB⟩
 ·rw [if_neg c4] at H
  have c4b0 : (t669 == 0) = false := beq_eq_false_iff_ne.mpr c4
  have c4b1 : (t669 != 0) = true := bne_iff_ne.mpr c4
  simp only [Option.some.injEq, Prod.mk.injEq] at H
  obtain ⟨rfl, rfl, rfl⟩ := H
  go_enter Tryz.func22, Tryz.ntmps22
  go_wp2_with (first | ((with_reducible refine gate_callee (f := 55) rfl ?_); refine goesL_ (some 14) rfl rfl Tryz.func55 (by kernel_rfl) rfl #[.int .i64 a0] rfl (by (try simp only [List.map_toArray, List.map_cons, List.map_nil]); first | done | rfl | (simp only [List.length_drop, List.length_take]; rfl)) ?_; (with_reducible refine (ints_Width.calls a0 t668 t669 _ A3.out).mono ?_); rintro e w22 ⟨rfl, hb⟩; refine ⟨_, rfl, ?_⟩; replace HB := Aside0.mk (below_step (bw HB) hb); (try clear hb); (try clear hb2); (try clear hk); (try clear hi)))
  go_ret3
  exact ⟨by first | rfl | (simp [errW_none, errW_some] <;> rfl) | (simp [*, errW_none, errW_some] <;> rfl), bw HB⟩
end Go.Proofs.YtckbmniiecbalaaGreatDoor.PT
