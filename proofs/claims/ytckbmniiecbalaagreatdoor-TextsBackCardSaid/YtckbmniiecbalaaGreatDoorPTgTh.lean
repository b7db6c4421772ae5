-- written by a program of this session out of the kit's print (its words and its form)
import Derived.Test.YtckbmniiecbalaaGreatDoorPTgSa
import Derived.Test.YtckbmniiecbalaaGreatDoorPTgTe
import Derived.Test.YtckbmniiecbalaaGreatDoorPTgTf
import Derived.Test.YtckbmniiecbalaaGreatDoorPTgTg
import Derived.Test.YtckbmniiecbalaaGreatDoorPTsq
import Derived.Test.YtckbmniiecbalaaGreatDoorPTx0
namespace Go.Proofs.YtckbmniiecbalaaGreatDoor.PT
open Go.RowKit Go.Proofs.YtckbmniiecbalaaGreatDoorW.PrintWords Go.Proofs.YtckbmniiecbalaaGreatDoorW.PrintLast Go.Proofs.YtckbmniiecbalaaGreatDoorW.PrintMore
attribute [local go_sem] max2_int min2_int max_two min_two max_three min_three max_four min_four   -- for this text's walks alone
set_option linter.unusedVariables false
set_option linter.unusedSimpArgs false

/-! ### texts_start: function 61 -/
mutual
def texts_start.j1 : Nat → ByteArray → ByteArray → Int → Bool → Option (Int × Bool × Int)
 | 0, _, _, _, _ => none
 | k + 1, x0, x1, x4, x5 => if x4 = (x0.size : Int) then (some (x4, false, 16)) else (if 0 ≤ x4 then (if x4 < (x0.size : Int) then ((strings_IndexByte.f x1 (bt x0 x4)).bind fun t293 => (if t293 ≥ 0 then (some (wrap64 (x4 + 1), ((bt x0 x4) == 45), 0)) else (some (x4, x5, 0)))) else (none)) else (none))
def texts_start.l0 : Nat → ByteArray → ByteArray → Int → Bool → Option (Int × Bool × Int)
 | 0, _, _, _, _ => none
 | k + 1, x0, x1, x4, x5 => if x4 < (x0.size : Int) then (if 0 ≤ x4 then ((strings_IndexByte.f (⟨#[9, 10, 12, 32]⟩ : ByteArray) (bt x0 x4)).bind fun t292 => (if t292 ≥ 0 then (texts_start.l0 k x0 x1 (wrap64 (x4 + 1)) x5) else (texts_start.j1 k x0 x1 x4 x5))) else (none)) else (texts_start.j1 k x0 x1 x4 x5)
end
def texts_start.f (k : Nat) (a0 : ByteArray) (a1 : ByteArray) : Option (Int × Bool × Int) := texts_start.l0 k a0 a1 0 false
theorem texts_start.mono_l : ∀ k, (∀ y0 y1 y2 y3, LeO (texts_start.j1 k y0 y1 y2 y3) (texts_start.j1 (k + 1) y0 y1 y2 y3)) ∧ (∀ y0 y1 y2 y3, LeO (texts_start.l0 k y0 y1 y2 y3) (texts_start.l0 (k + 1) y0 y1 y2 y3))
 | 0 => ⟨fun _ _ _ _ r h => by simp [texts_start.j1] at h, fun _ _ _ _ r h => by simp [texts_start.l0] at h⟩
 | k + 1 => by
  obtain ⟨ih0, ih1⟩ := texts_start.mono_l k
  refine ⟨?_, ?_⟩
  ·intro y0 y1 y2 y3
   unfold texts_start.j1
   repeat' first
   | (with_reducible exact ih0 _ _ _ _)
   | (with_reducible exact ih1 _ _ _ _)
   | (with_reducible exact LeO.refl _)
   | (with_reducible exact LeO.none _)
   | (with_reducible refine LeO.ite ?_ ?_)
   | (with_reducible refine LeO.bind ?_ (fun _ => ?_))
   | exact ih0 _ _ _ _
   | exact ih1 _ _ _ _
   | exact LeO.none _
   | refine LeO.ite ?_ ?_
   | refine LeO.bind ?_ (fun _ => ?_)
  ·intro y0 y1 y2 y3
   unfold texts_start.l0
   repeat' first
   | (with_reducible exact ih0 _ _ _ _)
   | (with_reducible exact ih1 _ _ _ _)
   | (with_reducible exact LeO.refl _)
   | (with_reducible exact LeO.none _)
   | (with_reducible refine LeO.ite ?_ ?_)
   | (with_reducible refine LeO.bind ?_ (fun _ => ?_))
   | exact ih0 _ _ _ _
   | exact ih1 _ _ _ _
   | exact LeO.none _
   | refine LeO.ite ?_ ?_
   | refine LeO.bind ?_ (fun _ => ?_)
theorem texts_start.mono : ∀ a0 a1 k, LeO (texts_start.f k a0 a1) (texts_start.f (k + 1) a0 a1) := by
 intro a0 a1 k
 obtain ⟨ih0, ih1⟩ := texts_start.mono_l k
 unfold texts_start.f
 repeat' first
   | (with_reducible exact ih0 _ _ _ _)
   | (with_reducible exact ih1 _ _ _ _)
   | (with_reducible exact LeO.refl _)
   | (with_reducible exact LeO.none _)
   | (with_reducible refine LeO.ite ?_ ?_)
   | (with_reducible refine LeO.bind ?_ (fun _ => ?_))
   | exact ih0 _ _ _ _
   | exact ih1 _ _ _ _
   | exact LeO.none _
   | refine LeO.ite ?_ ?_
   | refine LeO.bind ?_ (fun _ => ?_)
set_option maxHeartbeats 8000000 in
set_option maxRecDepth 100000 in
theorem texts_start.calls (k : Nat) (a0 : ByteArray) (a1 : ByteArray) (r1 : Int) (r2 : Bool) (r3 : Int) (w : World) (h : texts_start.f k a0 a1 = some (r1, r2, r3)) :
  Calls Tryz.prog 61 #[.string a0, .string a1] w fun e w' => e = .returned (.tuple #[.int .i64 r1, .bool r2, .int .i64 r3]) ∧ Drawn0 w w' := by
 have H : (texts_start.l0 k a0 a1 0 false) = some (r1, r2, r3) := h
 clear h
 have HC3 := Aside0.mk H
 clear H
 go_enter Tryz.func61, Tryz.ntmps61
 go_upto_block 0 with (fail)
 go_cut [4] (fun v4 wc => ∃ (kq : Nat) (x4_2 : Int), v4 = .int .i64 x4_2 ∧ Aside0 (texts_start.j1 kq a0 a1 x4_2 false = some (r1, r2, r3)) ∧ Aside0 (kq ≤ k) ∧ Drawn0 w wc)
 case first =>
  have H := HC3.out
  clear HC3
  have H' := Aside0.mk H
  clear H
  go_wp2
  go_loopg [4] k (fun kq v4 w' => ∃ (x4_1 : Int), v4 = .int .i64 x4_1 ∧ Aside0 (texts_start.l0 kq a0 a1 x4_1 false = some (r1, r2, r3)) ∧ Aside0 (kq ≤ k) ∧ Drawn0 w w')
  case atStart => exact ⟨(0), (by first | rfl | (simp; done) | (simp [*]; done)), H', ⟨Nat.le_refl _⟩, by repeat (first | exact Drawn0.refl _ | apply Drawn0.step)⟩
  case round =>
   clear H'
   try clear p2
   obtain ⟨x4_1, rfl, HA, HK1, ⟨m1, rfl⟩⟩ := hrel
   cases gk with
   | zero => exact absurd HA.out (by simp [texts_start.l0])
   | succ k1 =>
    have H := HA.out
    clear HA
    simp only [texts_start.l0] at H
    by_cases c4 : x4_1 < (a0.size : Int)
    ·rw [if_pos c4] at H
     have c4b0 : decide (x4_1 < (a0.size : Int)) = true := decide_eq_true c4
     clear c4
     (first | rw [c4b0] | (simp only [i64_w, i32_w]; rw [c4b0]) | skip)
     by_cases c5 : 0 ≤ x4_1
     ·rw [if_pos c5] at H
      have c5b0 : decide (0 ≤ x4_1) = true := decide_eq_true c5
      clear c5
      replace H := Option.bind_eq_some_iff.mp H
      obtain ⟨t292, A70, H⟩ := H
      replace H : (if t292 ≥ 0 then (texts_start.l0 k1 a0 a1 (wrap64 (x4_1 + 1)) false) else (texts_start.j1 k1 a0 a1 x4_1 false)) = some (r1, r2, r3) := H
      have A7 := Aside0.mk A70
      clear A70
      by_cases c8 : t292 ≥ 0
      ·rw [if_pos c8] at H
       have c8b0 : decide (0 ≤ t292) = true := decide_eq_true c8
       clear c8
       have H' := Aside0.mk H
       clear H
       have p6 : 0 ≤ (x4_1 : Int) := of_decide_eq_true (by first | (with_reducible assumption) | assumption)
       have q6 : x4_1 < (a0.size : Int) := of_decide_eq_true (by first | (with_reducible assumption) | assumption)
       have hx6 := bt_at a0 x4_1
       replace p6 := eq_true p6
       replace q6 := eq_true q6
       go_wp2_with (first | (go_at_call 97; (with_reducible refine (strings_IndexByte.calls (⟨#[9, 10, 12, 32]⟩ : ByteArray) (bt a0 x4_1) t292 _ A7.out).mono ?_); rintro e w' ⟨rfl, ⟨nd, rfl⟩⟩))
       go_roundg k1
       case measure => have := HK1.out; omega
       case rel => exact ⟨(wrap64 (x4_1 + 1)), (by first | rfl | (simp; done) | (simp [*]; done)), H', ⟨by have := HK1.out; omega⟩, by repeat (first | exact Drawn0.refl _ | apply Drawn0.step)⟩
      ·rw [if_neg c8] at H
       have c8b0 : decide (0 ≤ t292) = false := decide_eq_false c8
       clear c8
       have H' := Aside0.mk H
       clear H
       have p6 : 0 ≤ (x4_1 : Int) := of_decide_eq_true (by first | (with_reducible assumption) | assumption)
       have q6 : x4_1 < (a0.size : Int) := of_decide_eq_true (by first | (with_reducible assumption) | assumption)
       have hx6 := bt_at a0 x4_1
       replace p6 := eq_true p6
       replace q6 := eq_true q6
       go_wp2_with (first | (go_at_call 97; (with_reducible refine (strings_IndexByte.calls (⟨#[9, 10, 12, 32]⟩ : ByteArray) (bt a0 x4_1) t292 _ A7.out).mono ?_); rintro e w' ⟨rfl, ⟨nd, rfl⟩⟩))
       go_meet
       case rel => exact ⟨_, (x4_1), (by first | rfl | (simp; done) | (simp [*]; done)), H', ⟨by have := HK1.out; first | omega | exact Nat.le_refl _⟩, by repeat (first | exact Drawn0.refl _ | apply Drawn0.step)⟩
     ·rw [if_neg c5] at H
      exact absurd H (by simp)
    ·rw [if_neg c4] at H
     have c4b0 : decide (x4_1 < (a0.size : Int)) = false := decide_eq_false c4
     clear c4
     (first | rw [c4b0] | (simp only [i64_w, i32_w]; rw [c4b0]) | skip)
     have H' := Aside0.mk H
     clear H
     go_wp2
     go_meet
     case rel => exact ⟨_, (x4_1), (by first | rfl | (simp; done) | (simp [*]; done)), H', ⟨by have := HK1.out; first | omega | exact Nat.le_refl _⟩, by repeat (first | exact Drawn0.refl _ | apply Drawn0.step)⟩
 case rest =>
  clear HC3
  try clear p2
  try clear c4
  try clear c4b0
  try clear c5
  try clear c5b0
  try clear c6
  try clear p6
  try clear q6
  try clear hx6
  try clear c8
  try clear c8b0
  try clear p2
  try clear p6
  try clear q6
  obtain ⟨kq, x4_2, rfl, HA, HJ2, ⟨mc2, rfl⟩⟩ := hcut
  cases kq with
  | zero => exact absurd HA.out (by simp [texts_start.j1])
  | succ kj2 =>
   have H := HA.out
   clear HA
   simp only [texts_start.j1] at H
   by_cases c9 : x4_2 = (a0.size : Int)
   ·rw [if_pos c9] at H
    have c9b0 : (x4_2 == (a0.size : Int)) = true := beq_iff_eq.mpr c9
    have c9b1 : (x4_2 != (a0.size : Int)) = false := bne_eq_false_iff_eq.mpr c9
    clear c9
    simp only [Option.some.injEq, Prod.mk.injEq] at H
    obtain ⟨rfl, rfl, rfl⟩ := H
    go_wp2
    go_ret3
    exact ⟨by first | rfl | (simp; done) | (simp [*]; done), by repeat (first | exact Drawn0.refl _ | apply Drawn0.step)⟩
   ·rw [if_neg c9] at H
    have c9b0 : (x4_2 == (a0.size : Int)) = false := beq_eq_false_iff_ne.mpr c9
    have c9b1 : (x4_2 != (a0.size : Int)) = true := bne_iff_ne.mpr c9
    by_cases c10 : 0 ≤ x4_2
    ·rw [if_pos c10] at H
     have c10b0 : decide (0 ≤ x4_2) = true := decide_eq_true c10
     clear c10
     by_cases c11 : x4_2 < (a0.size : Int)
     ·rw [if_pos c11] at H
      have c11b0 : decide (x4_2 < (a0.size : Int)) = true := decide_eq_true c11
      clear c11
      replace H := Option.bind_eq_some_iff.mp H
      obtain ⟨t293, A130, H⟩ := H
      replace H : (if t293 ≥ 0 then (some (wrap64 (x4_2 + 1), ((bt a0 x4_2) == 45), 0)) else (some (x4_2, false, 0))) = some (r1, r2, r3) := H
      have A13 := Aside0.mk A130
      clear A130
      by_cases c14 : t293 ≥ 0
      ·rw [if_pos c14] at H
       have c14b0 : decide (0 ≤ t293) = true := decide_eq_true c14
       clear c14
       simp only [Option.some.injEq, Prod.mk.injEq] at H
       obtain ⟨rfl, rfl, rfl⟩ := H
       have p12 : 0 ≤ (x4_2 : Int) := of_decide_eq_true (by first | (with_reducible assumption) | assumption)
       have q12 : x4_2 < (a0.size : Int) := of_decide_eq_true (by first | (with_reducible assumption) | assumption)
       have hx12 := bt_at a0 x4_2
       replace p12 := eq_true p12
       replace q12 := eq_true q12
       go_wp2_with (first | ((with_reducible refine gate_callee (f := 97) rfl ?_); refine goesL_ (some 29) rfl rfl Tryz.func97 (by kernel_rfl) rfl #[.string a1, .int .u8 (bt a0 x4_2)] rfl (by (try simp only [List.map_toArray, List.map_cons, List.map_nil]); first | done | rfl | (simp only [List.length_drop, List.length_take]; rfl)) ?_; (with_reducible refine (strings_IndexByte.calls a1 (bt a0 x4_2) t293 _ A13.out).mono ?_); rintro e w' ⟨rfl, ⟨nd, rfl⟩⟩; refine ⟨_, rfl, ?_⟩; have p15 : 0 ≤ (x4_2 : Int) := of_decide_eq_true (by first | (with_reducible assumption) | assumption); have q15 : x4_2 < (a0.size : Int) := of_decide_eq_true (by first | (with_reducible assumption) | assumption); have hx15 := bt_at a0 x4_2; replace p15 := eq_true p15; replace q15 := eq_true q15))
       go_ret3
       exact ⟨by first | rfl | (simp; done) | (simp [*]; done), by repeat (first | exact Drawn0.refl _ | apply Drawn0.step)⟩
      ·rw [if_neg c14] at H
       have c14b0 : decide (0 ≤ t293) = false := decide_eq_false c14
       clear c14
       simp only [Option.some.injEq, Prod.mk.injEq] at H
       obtain ⟨rfl, rfl, rfl⟩ := H
       have p12 : 0 ≤ (x4_2 : Int) := of_decide_eq_true (by first | (with_reducible assumption) | assumption)
       have q12 : x4_2 < (a0.size : Int) := of_decide_eq_true (by first | (with_reducible assumption) | assumption)
       have hx12 := bt_at a0 x4_2
       replace p12 := eq_true p12
       replace q12 := eq_true q12
       go_wp2_with (first | ((with_reducible refine gate_callee (f := 97) rfl ?_); refine goesL_ (some 29) rfl rfl Tryz.func97 (by kernel_rfl) rfl #[.string a1, .int .u8 (bt a0 x4_2)] rfl (by (try simp only [List.map_toArray, List.map_cons, List.map_nil]); first | done | rfl | (simp only [List.length_drop, List.length_take]; rfl)) ?_; (with_reducible refine (strings_IndexByte.calls a1 (bt a0 x4_2) t293 _ A13.out).mono ?_); rintro e w' ⟨rfl, ⟨nd, rfl⟩⟩; refine ⟨_, rfl, ?_⟩))
       go_ret3
       exact ⟨by first | rfl | (simp; done) | (simp [*]; done), by repeat (first | exact Drawn0.refl _ | apply Drawn0.step)⟩
     ·rw [if_neg c11] at H
      exact absurd H (by simp)
    ·rw [if_neg c10] at H
     exact absurd H (by simp)

/-! ### texts_ReadReal: function 20 -/
def texts_ReadReal.f (k : Nat) (a0 : Int) (a1 : ByteArray) : Option (Int × Int × Int × Int) := (texts_size.f a0).bind fun t295 => (if t295 = 0 then ((texts_start.f k a1 (⟨#[43, 45]⟩ : ByteArray)).bind fun bt296 => (if bt296.2.2 = 0 then (if 0 ≤ bt296.1 then (if bt296.1 ≤ (a1.size : Int) then ((texts_parts.f k (a1.extract (bt296.1 : Int).toNat a1.size)).bind fun bt299 => (if bt296.1 ≤ (wrap64 (bt296.1 + bt299.2.2.2)) then (if (wrap64 (bt296.1 + bt299.2.2.2)) ≤ (a1.size : Int) then ((texts_Real.f k a0 (a1.extract (bt296.1 : Int).toNat ((wrap64 (bt296.1 + bt299.2.2.2)) : Int).toNat)).bind fun bt303 => (if bt296.2.1 = true then (some (wrap64 (-bt303.1), bt303.2.1, wrap64 (bt296.1 + bt299.2.2.2), bt303.2.2)) else (some (bt303.1, bt303.2.1, wrap64 (bt296.1 + bt299.2.2.2), bt303.2.2)))) else (none)) else (none))) else (none)) else (none)) else (some (0, 0, bt296.1, bt296.2.2)))) else (some (0, 0, 0, t295)))
theorem texts_ReadReal.mono : ∀ a0 a1 k, LeO (texts_ReadReal.f k a0 a1) (texts_ReadReal.f (k + 1) a0 a1) := by
 intro a0 a1 k
 unfold texts_ReadReal.f
 repeat' first
   | (with_reducible exact texts_Real.mono _ _ _)
   | (with_reducible exact texts_parts.mono _ _)
   | (with_reducible exact texts_start.mono _ _ _)
   | (with_reducible exact LeO.refl _)
   | (with_reducible exact LeO.none _)
   | (with_reducible refine LeO.ite ?_ ?_)
   | (with_reducible refine LeO.bind ?_ (fun _ => ?_))
   | exact texts_Real.mono _ _ _
   | exact texts_parts.mono _ _
   | exact texts_start.mono _ _ _
   | exact LeO.none _
   | refine LeO.ite ?_ ?_
   | refine LeO.bind ?_ (fun _ => ?_)
set_option maxHeartbeats 8000000 in
set_option maxRecDepth 100000 in
theorem texts_ReadReal.calls (k : Nat) (a0 : Int) (a1 : ByteArray) (r1 : Int) (r2 : Int) (r3 : Int) (r4 : Int) (w : World) (h : texts_ReadReal.f k a0 a1 = some (r1, r2, r3, r4)) :
  Calls Tryz.prog 20 #[.int .i64 a0, .string a1] w fun e w' => e = .returned (.tuple #[.agg #[.int .i64 r1, .int .i64 r2], .int .i64 r3, .int .i64 r4]) ∧ Below w.heap.size w w' := by
 have hu23 := Tryz.underlying23
 have HB := Aside0.mk (Below.refl w.heap.size w)
 have H : ((texts_size.f a0).bind fun t295 => (if t295 = 0 then ((texts_start.f k a1 (⟨#[43, 45]⟩ : ByteArray)).bind fun bt296 => (if bt296.2.2 = 0 then (if 0 ≤ bt296.1 then (if bt296.1 ≤ (a1.size : Int) then ((texts_parts.f k (a1.extract (bt296.1 : Int).toNat a1.size)).bind fun bt299 => (if bt296.1 ≤ (wrap64 (bt296.1 + bt299.2.2.2)) then (if (wrap64 (bt296.1 + bt299.2.2.2)) ≤ (a1.size : Int) then ((texts_Real.f k a0 (a1.extract (bt296.1 : Int).toNat ((wrap64 (bt296.1 + bt299.2.2.2)) : Int).toNat)).bind fun bt303 => (if bt296.2.1 = true then (some (wrap64 (-bt303.1), bt303.2.1, wrap64 (bt296.1 + bt299.2.2.2), bt303.2.2)) else (some (bt303.1, bt303.2.1, wrap64 (bt296.1 + bt299.2.2.2), bt303.2.2)))) else (none)) else (none))) else (none)) else (none)) else (some (0, 0, bt296.1, bt296.2.2)))) else (some (0, 0, 0, t295)))) = some (r1, r2, r3, r4) := h
 clear h
 replace H := Option.bind_eq_some_iff.mp H
 obtain ⟨t295, A30, H⟩ := H
 replace H : (if t295 = 0 then ((texts_start.f k a1 (⟨#[43, 45]⟩ : ByteArray)).bind fun bt296 => (if bt296.2.2 = 0 then (if 0 ≤ bt296.1 then (if bt296.1 ≤ (a1.size : Int) then ((texts_parts.f k (a1.extract (bt296.1 : Int).toNat a1.size)).bind fun bt299 => (if bt296.1 ≤ (wrap64 (bt296.1 + bt299.2.2.2)) then (if (wrap64 (bt296.1 + bt299.2.2.2)) ≤ (a1.size : Int) then ((texts_Real.f k a0 (a1.extract (bt296.1 : Int).toNat ((wrap64 (bt296.1 + bt299.2.2.2)) : Int).toNat)).bind fun bt303 => (if bt296.2.1 = true then (some (wrap64 (-bt303.1), bt303.2.1, wrap64 (bt296.1 + bt299.2.2.2), bt303.2.2)) else (some (bt303.1, bt303.2.1, wrap64 (bt296.1 + bt299.2.2.2), bt303.2.2)))) else (none)) else (none))) else (none)) else (none)) else (some (0, 0, bt296.1, bt296.2.2)))) else (some (0, 0, 0, t295))) = some (r1, r2, r3, r4) := H
 have A3 := Aside0.mk A30
 clear A30
 by_cases c4 : t295 = 0
 ·rw [if_pos c4] at H
  have c4b0 : (t295 == 0) = true := beq_iff_eq.mpr c4
  have c4b1 : (t295 != 0) = false := bne_eq_false_iff_eq.mpr c4
  clear c4
  replace H := Option.bind_eq_some_iff.mp H
  obtain ⟨⟨t296, t297, t298⟩, A50, H⟩ := H
  replace H : (if t298 = 0 then (if 0 ≤ t296 then (if t296 ≤ (a1.size : Int) then ((texts_parts.f k (a1.extract (t296 : Int).toNat a1.size)).bind fun bt299 => (if t296 ≤ (wrap64 (t296 + bt299.2.2.2)) then (if (wrap64 (t296 + bt299.2.2.2)) ≤ (a1.size : Int) then ((texts_Real.f k a0 (a1.extract (t296 : Int).toNat ((wrap64 (t296 + bt299.2.2.2)) : Int).toNat)).bind fun bt303 => (if t297 = true then (some (wrap64 (-bt303.1), bt303.2.1, wrap64 (t296 + bt299.2.2.2), bt303.2.2)) else (some (bt303.1, bt303.2.1, wrap64 (t296 + bt299.2.2.2), bt303.2.2)))) else (none)) else (none))) else (none)) else (none)) else (some (0, 0, t296, t298))) = some (r1, r2, r3, r4) := H
  have A5 := Aside0.mk A50
  clear A50
  by_cases c6 : t298 = 0
  ·rw [if_pos c6] at H
   have c6b0 : (t298 == 0) = true := beq_iff_eq.mpr c6
   have c6b1 : (t298 != 0) = false := bne_eq_false_iff_eq.mpr c6
   clear c6
   by_cases c7 : 0 ≤ t296
   ·rw [if_pos c7] at H
    have c7b0 := eq_true c7
    have c7b1 : decide (0 ≤ t296) = true := decide_eq_true c7
    clear c7
    by_cases c8 : t296 ≤ (a1.size : Int)
    ·rw [if_pos c8] at H
     have c8b0 := eq_true c8
     have c8b1 : decide (t296 ≤ (a1.size : Int)) = true := decide_eq_true c8
     clear c8
     replace H := Option.bind_eq_some_iff.mp H
     obtain ⟨⟨t299, t300, t301, t302⟩, A90, H⟩ := H
     replace H : (if t296 ≤ (wrap64 (t296 + t302)) then (if (wrap64 (t296 + t302)) ≤ (a1.size : Int) then ((texts_Real.f k a0 (a1.extract (t296 : Int).toNat ((wrap64 (t296 + t302)) : Int).toNat)).bind fun bt303 => (if t297 = true then (some (wrap64 (-bt303.1), bt303.2.1, wrap64 (t296 + t302), bt303.2.2)) else (some (bt303.1, bt303.2.1, wrap64 (t296 + t302), bt303.2.2)))) else (none)) else (none)) = some (r1, r2, r3, r4) := H
     have A9 := Aside0.mk A90
     clear A90
     have c10b0 := eq_true (of_decide_eq_true (by first | (with_reducible assumption) | assumption) : 0 ≤ t296)
     by_cases c11 : t296 ≤ (wrap64 (t296 + t302))
     ·rw [if_pos c11] at H
      have c11b0 := eq_true c11
      have c11b1 : decide (t296 ≤ (wrap64 (t296 + t302))) = true := decide_eq_true c11
      by_cases c12 : (wrap64 (t296 + t302)) ≤ (a1.size : Int)
      ·rw [if_pos c12] at H
       have c12b0 := eq_true c12
       have c12b1 : decide ((wrap64 (t296 + t302)) ≤ (a1.size : Int)) = true := decide_eq_true c12
       replace H := Option.bind_eq_some_iff.mp H
       obtain ⟨⟨t303, t304, t305⟩, A130, H⟩ := H
       replace H : (if t297 = true then (some (wrap64 (-t303), t304, wrap64 (t296 + t302), t305)) else (some (t303, t304, wrap64 (t296 + t302), t305))) = some (r1, r2, r3, r4) := H
       have A13 := Aside0.mk A130
       clear A130
       by_cases c14 : t297 = true
       ·subst c14
        have H1 : (some (wrap64 (-t303), t304, wrap64 (t296 + t302), t305)) = some (r1, r2, r3, r4) := by rw [if_pos rfl] at H; exact H
        clear H
        have H := H1
        clear H1
        simp only [Option.some.injEq, Prod.mk.injEq] at H
        obtain ⟨rfl, rfl, rfl, rfl⟩ := H
        go_enter Tryz.func20, Tryz.ntmps20
        go_wp2_with (first | ((with_reducible refine gate_dst (N := 4) rfl ?_); refine box_event ?hg (N := 4) ?hd (cs := #[.int .i64 0, .int .i64 0]) (t := 23) ?hr ?_; (case hd => rfl); (case hg => rfl); (case hr => first | (go_simp; done) | (go_simp; rfl)); intro gb294 hg w15 hbox hb; have BK294 := Aside0.mk (hbox); have GW294 := Aside0.mk (bs HB hg : w.heap.size ≤ gb294); replace HB := Aside0.mk (below_step (bw HB) hb); clear hb hbox hg) | ((with_reducible refine gate_callee (f := 60) rfl ?_); refine goesL_ (some 17) rfl rfl Tryz.func60 (by kernel_rfl) rfl #[.int .i64 a0] rfl (by (try simp only [List.map_toArray, List.map_cons, List.map_nil]); first | done | rfl | (simp only [List.length_drop, List.length_take]; rfl)) ?_; (with_reducible refine (texts_size.calls a0 t295 _ A3.out).mono ?_); rintro e w16 ⟨rfl, hb⟩; refine ⟨_, rfl, ?_⟩; replace BK294 := Aside0.mk (bb BK294 hb); replace HB := Aside0.mk (below_step (bw HB) hb); (try clear hb); (try clear hb2); (try clear hk); (try clear hi)) | ((with_reducible refine gate_callee (f := 61) rfl ?_); refine goesL_ (some 24) rfl rfl Tryz.func61 (by kernel_rfl) rfl #[.string a1, .string (⟨#[43, 45]⟩ : ByteArray)] rfl (by (try simp only [List.map_toArray, List.map_cons, List.map_nil]); first | done | rfl | (simp only [List.length_drop, List.length_take]; rfl)) ?_; (with_reducible refine (texts_start.calls k a1 (⟨#[43, 45]⟩ : ByteArray) t296 true t298 _ A5.out).mono ?_); rintro e w' ⟨rfl, ⟨nd, rfl⟩⟩; refine ⟨_, rfl, ?_⟩; (try (rw [drewN_self w16]; generalize hq_ : World.drewN w16 _ = w16; have n0_ : Aside0 (w16.heap[gb294]? = some (.cells #[.int .i64 0, .int .i64 0] 23 (0, 0))) := ⟨by rw [← hq_]; exact (bk BK294)⟩; have n1_ : Aside0 (Below w.heap.size w w16) := ⟨by rw [← hq_]; exact (bw HB)⟩; clear BK294 HB hq_; have BK294 := n0_; have HB := n1_; clear n0_ n1_))) | ((with_reducible refine gate_callee (f := 68) rfl ?_); refine goesL_ (some 37) rfl rfl Tryz.func68 (by kernel_rfl) rfl #[.string (a1.extract (t296 : Int).toNat a1.size)] rfl (by (try simp only [List.map_toArray, List.map_cons, List.map_nil]); first | done | rfl | (simp only [List.length_drop, List.length_take]; rfl)) ?_; (with_reducible refine (texts_parts.calls k (a1.extract (t296 : Int).toNat a1.size) t299 t300 t301 t302 _ A9.out).mono ?_); rintro e w' ⟨rfl, ⟨nd, rfl⟩⟩; refine ⟨_, rfl, ?_⟩; (try (rw [drewN_self w16]; generalize hq_ : World.drewN w16 _ = w16; have n0_ : Aside0 (w16.heap[gb294]? = some (.cells #[.int .i64 0, .int .i64 0] 23 (0, 0))) := ⟨by rw [← hq_]; exact (bk BK294)⟩; have n1_ : Aside0 (Below w.heap.size w w16) := ⟨by rw [← hq_]; exact (bw HB)⟩; clear BK294 HB hq_; have BK294 := n0_; have HB := n1_; clear n0_ n1_))) | ((with_reducible refine gate_callee (f := 27) rfl ?_); refine goesL_ (some 50) rfl rfl Tryz.func27 (by kernel_rfl) rfl #[.int .i64 a0, .string (a1.extract (t296 : Int).toNat ((wrap64 (t296 + t302)) : Int).toNat)] rfl (by (try simp only [List.map_toArray, List.map_cons, List.map_nil]); first | done | rfl | (simp only [List.length_drop, List.length_take]; rfl)) ?_; (with_reducible refine (texts_Real.calls k a0 (a1.extract (t296 : Int).toNat ((wrap64 (t296 + t302)) : Int).toNat) t303 t304 t305 _ A13.out).mono ?_); rintro e w17 ⟨rfl, hb⟩; refine ⟨_, rfl, ?_⟩; replace BK294 := Aside0.mk (bb BK294 hb); replace HB := Aside0.mk (below_step (bw HB) hb); (try clear hb); (try clear hb2); (try clear hk); (try clear hi)) | ((with_reducible refine gate_dst (N := 15) rfl ?_); refine box_event ?hg (N := 15) ?hd (cs := #[.int .i64 0, .int .i64 0]) (t := 23) ?hr ?_; (case hd => rfl); (case hg => rfl); (case hr => first | (go_simp; done) | (go_simp; rfl)); intro gb306 hg w18 hbox hb; have BK306 := Aside0.mk (hbox); have GW306 := Aside0.mk (bs HB hg : w.heap.size ≤ gb306); replace HB := Aside0.mk (below_step (bw HB) hb); have NB294_306 := Aside0.mk (nl BK294 hg); have NB306_294 := Aside0.mk (ng BK294 hg); replace BK294 := Aside0.mk (bb BK294 hb); clear hb hbox hg; have hnb19 := NB306_294.out; have hnc19 := NB294_306.out; obtain ⟨hcz20_0, hcz20_1, hfz20_0, hfz20_1⟩ := cf2 BK306; obtain ⟨hcz21_0, hcz21_1, hfz21_0, hfz21_1⟩ := cf2 BK294))
        refine bodyPost_ret (results_ctt rfl _ _ gb294 23 #[.int .i64 (wrap64 (-t303)), .int .i64 t304] (0, 0) _ rfl (by (with_reducible repeat (first | refine blk_drewN ?_ _ | refine blk_drew ?_ | refine blk_alloc ?_ _)); refine blk_put (cs := #[.int .i64 (wrap64 (-t303)), .int .i64 0]) ?_ 1 _ rfl; (with_reducible repeat (first | refine blk_drewN ?_ _ | refine blk_drew ?_ | refine blk_alloc ?_ _)); refine blk_put (cs := #[.int .i64 0, .int .i64 0]) ?_ 0 _ rfl; (with_reducible repeat (first | refine blk_drewN ?_ _ | refine blk_drew ?_ | refine blk_alloc ?_ _)); refine blk_far ?_ NB294_306.out _; (with_reducible repeat (first | refine blk_drewN ?_ _ | refine blk_drew ?_ | refine blk_alloc ?_ _)); refine blk_far ?_ NB294_306.out _; (with_reducible repeat (first | refine blk_drewN ?_ _ | refine blk_drew ?_ | refine blk_alloc ?_ _)); refine blk_far ?_ NB294_306.out _; (with_reducible repeat (first | refine blk_drewN ?_ _ | refine blk_drew ?_ | refine blk_alloc ?_ _)); exact BK294.out) Tryz.underlying23 rfl (by kernel_rfl)) rfl ?_
        exact ⟨by first | rfl | (simp [errW_none, errW_some] <;> rfl) | (simp [*, errW_none, errW_some] <;> rfl), bw HB⟩
       ·replace c14 := Bool.eq_false_iff.mpr c14
        subst c14
        have H1 : (some (t303, t304, wrap64 (t296 + t302), t305)) = some (r1, r2, r3, r4) := by rw [if_neg (show ¬ (false = true) by decide)] at H; exact H
        clear H
        have H := H1
        clear H1
        simp only [Option.some.injEq, Prod.mk.injEq] at H
        obtain ⟨rfl, rfl, rfl, rfl⟩ := H
        go_enter Tryz.func20, Tryz.ntmps20
        go_wp2_with (first | ((with_reducible refine gate_dst (N := 4) rfl ?_); refine box_event ?hg (N := 4) ?hd (cs := #[.int .i64 0, .int .i64 0]) (t := 23) ?hr ?_; (case hd => rfl); (case hg => rfl); (case hr => first | (go_simp; done) | (go_simp; rfl)); intro gb294 hg w22 hbox hb; have BK294 := Aside0.mk (hbox); have GW294 := Aside0.mk (bs HB hg : w.heap.size ≤ gb294); replace HB := Aside0.mk (below_step (bw HB) hb); clear hb hbox hg) | ((with_reducible refine gate_callee (f := 60) rfl ?_); refine goesL_ (some 17) rfl rfl Tryz.func60 (by kernel_rfl) rfl #[.int .i64 a0] rfl (by (try simp only [List.map_toArray, List.map_cons, List.map_nil]); first | done | rfl | (simp only [List.length_drop, List.length_take]; rfl)) ?_; (with_reducible refine (texts_size.calls a0 t295 _ A3.out).mono ?_); rintro e w23 ⟨rfl, hb⟩; refine ⟨_, rfl, ?_⟩; replace BK294 := Aside0.mk (bb BK294 hb); replace HB := Aside0.mk (below_step (bw HB) hb); (try clear hb); (try clear hb2); (try clear hk); (try clear hi)) | ((with_reducible refine gate_callee (f := 61) rfl ?_); refine goesL_ (some 24) rfl rfl Tryz.func61 (by kernel_rfl) rfl #[.string a1, .string (⟨#[43, 45]⟩ : ByteArray)] rfl (by (try simp only [List.map_toArray, List.map_cons, List.map_nil]); first | done | rfl | (simp only [List.length_drop, List.length_take]; rfl)) ?_; (with_reducible refine (texts_start.calls k a1 (⟨#[43, 45]⟩ : ByteArray) t296 false t298 _ A5.out).mono ?_); rintro e w' ⟨rfl, ⟨nd, rfl⟩⟩; refine ⟨_, rfl, ?_⟩; (try (rw [drewN_self w23]; generalize hq_ : World.drewN w23 _ = w23; have n0_ : Aside0 (w23.heap[gb294]? = some (.cells #[.int .i64 0, .int .i64 0] 23 (0, 0))) := ⟨by rw [← hq_]; exact (bk BK294)⟩; have n1_ : Aside0 (Below w.heap.size w w23) := ⟨by rw [← hq_]; exact (bw HB)⟩; clear BK294 HB hq_; have BK294 := n0_; have HB := n1_; clear n0_ n1_))) | ((with_reducible refine gate_callee (f := 68) rfl ?_); refine goesL_ (some 37) rfl rfl Tryz.func68 (by kernel_rfl) rfl #[.string (a1.extract (t296 : Int).toNat a1.size)] rfl (by (try simp only [List.map_toArray, List.map_cons, List.map_nil]); first | done | rfl | (simp only [List.length_drop, List.length_take]; rfl)) ?_; (with_reducible refine (texts_parts.calls k (a1.extract (t296 : Int).toNat a1.size) t299 t300 t301 t302 _ A9.out).mono ?_); rintro e w' ⟨rfl, ⟨nd, rfl⟩⟩; refine ⟨_, rfl, ?_⟩; (try (rw [drewN_self w23]; generalize hq_ : World.drewN w23 _ = w23; have n0_ : Aside0 (w23.heap[gb294]? = some (.cells #[.int .i64 0, .int .i64 0] 23 (0, 0))) := ⟨by rw [← hq_]; exact (bk BK294)⟩; have n1_ : Aside0 (Below w.heap.size w w23) := ⟨by rw [← hq_]; exact (bw HB)⟩; clear BK294 HB hq_; have BK294 := n0_; have HB := n1_; clear n0_ n1_))) | ((with_reducible refine gate_callee (f := 27) rfl ?_); refine goesL_ (some 50) rfl rfl Tryz.func27 (by kernel_rfl) rfl #[.int .i64 a0, .string (a1.extract (t296 : Int).toNat ((wrap64 (t296 + t302)) : Int).toNat)] rfl (by (try simp only [List.map_toArray, List.map_cons, List.map_nil]); first | done | rfl | (simp only [List.length_drop, List.length_take]; rfl)) ?_; (with_reducible refine (texts_Real.calls k a0 (a1.extract (t296 : Int).toNat ((wrap64 (t296 + t302)) : Int).toNat) t303 t304 t305 _ A13.out).mono ?_); rintro e w24 ⟨rfl, hb⟩; refine ⟨_, rfl, ?_⟩; replace BK294 := Aside0.mk (bb BK294 hb); replace HB := Aside0.mk (below_step (bw HB) hb); (try clear hb); (try clear hb2); (try clear hk); (try clear hi)) | ((with_reducible refine gate_dst (N := 15) rfl ?_); refine box_event ?hg (N := 15) ?hd (cs := #[.int .i64 0, .int .i64 0]) (t := 23) ?hr ?_; (case hd => rfl); (case hg => rfl); (case hr => first | (go_simp; done) | (go_simp; rfl)); intro gb306 hg w25 hbox hb; have BK306 := Aside0.mk (hbox); have GW306 := Aside0.mk (bs HB hg : w.heap.size ≤ gb306); replace HB := Aside0.mk (below_step (bw HB) hb); have NB294_306 := Aside0.mk (nl BK294 hg); have NB306_294 := Aside0.mk (ng BK294 hg); replace BK294 := Aside0.mk (bb BK294 hb); clear hb hbox hg; have hnb26 := NB306_294.out; have hnc26 := NB294_306.out; obtain ⟨hcz27_0, hcz27_1, hfz27_0, hfz27_1⟩ := cf2 BK306; obtain ⟨hcz28_0, hcz28_1, hfz28_0, hfz28_1⟩ := cf2 BK294))
        refine bodyPost_ret (results_ctt rfl _ _ gb294 23 #[.int .i64 t303, .int .i64 t304] (0, 0) _ rfl (by (with_reducible repeat (first | refine blk_drewN ?_ _ | refine blk_drew ?_ | refine blk_alloc ?_ _)); refine blk_put (cs := #[.int .i64 t303, .int .i64 0]) ?_ 1 _ rfl; (with_reducible repeat (first | refine blk_drewN ?_ _ | refine blk_drew ?_ | refine blk_alloc ?_ _)); refine blk_put (cs := #[.int .i64 0, .int .i64 0]) ?_ 0 _ rfl; (with_reducible repeat (first | refine blk_drewN ?_ _ | refine blk_drew ?_ | refine blk_alloc ?_ _)); refine blk_far ?_ NB294_306.out _; (with_reducible repeat (first | refine blk_drewN ?_ _ | refine blk_drew ?_ | refine blk_alloc ?_ _)); refine blk_far ?_ NB294_306.out _; (with_reducible repeat (first | refine blk_drewN ?_ _ | refine blk_drew ?_ | refine blk_alloc ?_ _)); exact BK294.out) Tryz.underlying23 rfl (by kernel_rfl)) rfl ?_
        exact ⟨by first | rfl | (simp [errW_none, errW_some] <;> rfl) | (simp [*, errW_none, errW_some] <;> rfl), bw HB⟩
      ·rw [if_neg c12] at H
       exact absurd H (by simp)
     ·rw [if_neg c11] at H
      exact absurd H (by simp)
    ·rw [if_neg c8] at H
     exact absurd H (by simp)
   ·rw [if_neg c7] at H
    exact absurd H (by simp)
  ·rw [if_neg c6] at H
   have c6b0 : (t298 == 0) = false := beq_eq_false_iff_ne.mpr c6
   have c6b1 : (t298 != 0) = true := bne_iff_ne.mpr c6
   simp only [Option.some.injEq, Prod.mk.injEq] at H
   obtain ⟨rfl, rfl, rfl, rfl⟩ := H
   go_enter Tryz.func20, Tryz.ntmps20
   go_wp2_with (first | ((with_reducible refine gate_dst (N := 4) rfl ?_); refine box_event ?hg (N := 4) ?hd (cs := #[.int .i64 0, .int .i64 0]) (t := 23) ?hr ?_; (case hd => rfl); (case hg => rfl); (case hr => first | (go_simp; done) | (go_simp; rfl)); intro gb294 hg w29 hbox hb; have BK294 := Aside0.mk (hbox); have GW294 := Aside0.mk (bs HB hg : w.heap.size ≤ gb294); replace HB := Aside0.mk (below_step (bw HB) hb); clear hb hbox hg) | ((with_reducible refine gate_callee (f := 60) rfl ?_); refine goesL_ (some 17) rfl rfl Tryz.func60 (by kernel_rfl) rfl #[.int .i64 a0] rfl (by (try simp only [List.map_toArray, List.map_cons, List.map_nil]); first | done | rfl | (simp only [List.length_drop, List.length_take]; rfl)) ?_; (with_reducible refine (texts_size.calls a0 t295 _ A3.out).mono ?_); rintro e w30 ⟨rfl, hb⟩; refine ⟨_, rfl, ?_⟩; replace BK294 := Aside0.mk (bb BK294 hb); replace HB := Aside0.mk (below_step (bw HB) hb); (try clear hb); (try clear hb2); (try clear hk); (try clear hi)) | ((with_reducible refine gate_callee (f := 61) rfl ?_); refine goesL_ (some 24) rfl rfl Tryz.func61 (by kernel_rfl) rfl #[.string a1, .string (⟨#[43, 45]⟩ : ByteArray)] rfl (by (try simp only [List.map_toArray, List.map_cons, List.map_nil]); first | done | rfl | (simp only [List.length_drop, List.length_take]; rfl)) ?_; (with_reducible refine (texts_start.calls k a1 (⟨#[43, 45]⟩ : ByteArray) t296 t297 t298 _ A5.out).mono ?_); rintro e w' ⟨rfl, ⟨nd, rfl⟩⟩; refine ⟨_, rfl, ?_⟩; (try (rw [drewN_self w30]; generalize hq_ : World.drewN w30 _ = w30; have n0_ : Aside0 (w30.heap[gb294]? = some (.cells #[.int .i64 0, .int .i64 0] 23 (0, 0))) := ⟨by rw [← hq_]; exact (bk BK294)⟩; have n1_ : Aside0 (Below w.heap.size w w30) := ⟨by rw [← hq_]; exact (bw HB)⟩; clear BK294 HB hq_; have BK294 := n0_; have HB := n1_; clear n0_ n1_)); obtain ⟨hcz31_0, hcz31_1, hfz31_0, hfz31_1⟩ := cf2 BK294))
   refine bodyPost_ret (results_ctt rfl _ _ gb294 23 #[.int .i64 0, .int .i64 0] (0, 0) _ rfl (by (with_reducible repeat (first | refine blk_drewN ?_ _ | refine blk_drew ?_ | refine blk_alloc ?_ _)); refine blk_put (cs := #[.int .i64 0, .int .i64 0]) ?_ 1 _ rfl; (with_reducible repeat (first | refine blk_drewN ?_ _ | refine blk_drew ?_ | refine blk_alloc ?_ _)); refine blk_put (cs := #[.int .i64 0, .int .i64 0]) ?_ 0 _ rfl; (with_reducible repeat (first | refine blk_drewN ?_ _ | refine blk_drew ?_ | refine blk_alloc ?_ _)); exact BK294.out) Tryz.underlying23 rfl (by kernel_rfl)) rfl ?_
   exact ⟨by first | rfl | (simp [errW_none, errW_some] <;> rfl) | (simp [*, errW_none, errW_some] <;> rfl), bw HB⟩
 ·rw [if_neg c4] at H
  have c4b0 : (t295 == 0) = false := beq_eq_false_iff_ne.mpr c4
  have c4b1 : (t295 != 0) = true := bne_iff_ne.mpr c4
  simp only [Option.some.injEq, Prod.mk.injEq] at H
  obtain ⟨rfl, rfl, rfl, rfl⟩ := H
  go_enter Tryz.func20, Tryz.ntmps20
  go_wp2_with (first | ((with_reducible refine gate_dst (N := 4) rfl ?_); refine box_event ?hg (N := 4) ?hd (cs := #[.int .i64 0, .int .i64 0]) (t := 23) ?hr ?_; (case hd => rfl); (case hg => rfl); (case hr => first | (go_simp; done) | (go_simp; rfl)); intro gb294 hg w32 hbox hb; have BK294 := Aside0.mk (hbox); have GW294 := Aside0.mk (bs HB hg : w.heap.size ≤ gb294); replace HB := Aside0.mk (below_step (bw HB) hb); clear hb hbox hg) | ((with_reducible refine gate_callee (f := 60) rfl ?_); refine goesL_ (some 17) rfl rfl Tryz.func60 (by kernel_rfl) rfl #[.int .i64 a0] rfl (by (try simp only [List.map_toArray, List.map_cons, List.map_nil]); first | done | rfl | (simp only [List.length_drop, List.length_take]; rfl)) ?_; (with_reducible refine (texts_size.calls a0 t295 _ A3.out).mono ?_); rintro e w33 ⟨rfl, hb⟩; refine ⟨_, rfl, ?_⟩; replace BK294 := Aside0.mk (bb BK294 hb); replace HB := Aside0.mk (below_step (bw HB) hb); (try clear hb); (try clear hb2); (try clear hk); (try clear hi); obtain ⟨hcz34_0, hcz34_1, hfz34_0, hfz34_1⟩ := cf2 BK294))
  refine bodyPost_ret (results_ctt rfl _ _ gb294 23 #[.int .i64 0, .int .i64 0] (0, 0) _ rfl (by (with_reducible repeat (first | refine blk_drewN ?_ _ | refine blk_drew ?_ | refine blk_alloc ?_ _)); refine blk_put (cs := #[.int .i64 0, .int .i64 0]) ?_ 1 _ rfl; (with_reducible repeat (first | refine blk_drewN ?_ _ | refine blk_drew ?_ | refine blk_alloc ?_ _)); refine blk_put (cs := #[.int .i64 0, .int .i64 0]) ?_ 0 _ rfl; (with_reducible repeat (first | refine blk_drewN ?_ _ | refine blk_drew ?_ | refine blk_alloc ?_ _)); exact BK294.out) Tryz.underlying23 rfl (by kernel_rfl)) rfl ?_
  exact ⟨by first | rfl | (simp [errW_none, errW_some] <;> rfl) | (simp [*, errW_none, errW_some] <;> rfl), bw HB⟩
end Go.Proofs.YtckbmniiecbalaaGreatDoor.PT
