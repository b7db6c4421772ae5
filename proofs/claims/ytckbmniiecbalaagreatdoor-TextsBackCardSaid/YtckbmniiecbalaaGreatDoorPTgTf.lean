-- written by a program of this session out of the kit's print (its words and its form)
import Derived.Test.YtckbmniiecbalaaGreatDoorPTgTe
import Derived.Test.YtckbmniiecbalaaGreatDoorPTsq
import Derived.Test.YtckbmniiecbalaaGreatDoorPTx0
namespace Go.Proofs.YtckbmniiecbalaaGreatDoor.PT
open Go.RowKit Go.Proofs.YtckbmniiecbalaaGreatDoorW.PrintWords Go.Proofs.YtckbmniiecbalaaGreatDoorW.PrintLast Go.Proofs.YtckbmniiecbalaaGreatDoorW.PrintMore
attribute [local go_sem] max2_int min2_int max_two min_two max_three min_three max_four min_four   -- for this text's walks alone
set_option linter.unusedVariables false
set_option linter.unusedSimpArgs false

/-! ### texts_parts: function 68 -/
mutual
def texts_parts.j0 : Nat → ByteArray → ByteArray → ByteArray → ByteArray → Int → Bool → Option (ByteArray × ByteArray × ByteArray × Int)
 | 0, _, _, _, _, _, _ => none
 | k + 1, x0, x2, x3, x4, x5, x23 => if x23 = true then (if 0 ≤ (wrap64 (x5 + 1)) then (if (wrap64 (x5 + 1)) ≤ (x0.size : Int) then ((texts_digits.f k (x0.extract ((wrap64 (x5 + 1)) : Int).toNat x0.size)).bind fun t193 => (if t193 > 0 then (if (wrap64 (x5 + 1)) ≤ (wrap64 ((wrap64 (x5 + 1)) + t193)) then (if (wrap64 ((wrap64 (x5 + 1)) + t193)) ≤ (x0.size : Int) then (texts_parts.j1 k x0 x2 (x0.extract ((wrap64 (x5 + 1)) : Int).toNat ((wrap64 ((wrap64 (x5 + 1)) + t193)) : Int).toNat) x4 (wrap64 (x5 + (wrap64 (1 + t193))))) else (none)) else (none)) else (texts_parts.j1 k x0 x2 x3 x4 x5))) else (none)) else (none)) else (texts_parts.j1 k x0 x2 x3 x4 x5)
def texts_parts.j1 : Nat → ByteArray → ByteArray → ByteArray → ByteArray → Int → Option (ByteArray × ByteArray × ByteArray × Int)
 | 0, _, _, _, _, _ => none
 | k + 1, x0, x2, x3, x4, x5 => if x2.size + x3.size ≤ 9223372036854775807 then (if (x2 ++ x3).toList = ([] : List UInt8) then (some ((⟨#[]⟩ : ByteArray), (⟨#[]⟩ : ByteArray), (⟨#[]⟩ : ByteArray), 0)) else (if x5 < (x0.size : Int) then (if 0 ≤ x5 then (texts_parts.j2 k x0 x2 x3 x4 x5 ((bt x0 x5) == 101)) else (none)) else (texts_parts.j2 k x0 x2 x3 x4 x5 false))) else (none)
def texts_parts.j2 : Nat → ByteArray → ByteArray → ByteArray → ByteArray → Int → Bool → Option (ByteArray × ByteArray × ByteArray × Int)
 | 0, _, _, _, _, _, _ => none
 | k + 1, x0, x2, x3, x4, x5, x56 => if x56 = true then (if (wrap64 (x5 + 1)) < (x0.size : Int) then (if 0 ≤ (wrap64 (x5 + 1)) then (if (bt x0 (wrap64 (x5 + 1))) = 43 then (texts_parts.j3 k x0 x2 x3 x4 x5 (wrap64 (x5 + 1)) true) else (texts_parts.j3 k x0 x2 x3 x4 x5 (wrap64 (x5 + 1)) ((bt x0 (wrap64 (x5 + 1))) == 45))) else (none)) else (texts_parts.j3 k x0 x2 x3 x4 x5 (wrap64 (x5 + 1)) false)) else (some (x2, x3, x4, x5))
def texts_parts.j3 : Nat → ByteArray → ByteArray → ByteArray → ByteArray → Int → Int → Bool → Option (ByteArray × ByteArray × ByteArray × Int)
 | 0, _, _, _, _, _, _, _ => none
 | k + 1, x0, x2, x3, x4, x5, x7, x74 => if x74 = true then (if 0 ≤ (wrap64 (x7 + 1)) then (if (wrap64 (x7 + 1)) ≤ (x0.size : Int) then ((texts_digits.f k (x0.extract ((wrap64 (x7 + 1)) : Int).toNat x0.size)).bind fun t194 => (if t194 > 0 then (if 0 ≤ (wrap64 (x5 + 1)) then (if (wrap64 (x5 + 1)) ≤ (wrap64 ((wrap64 (x7 + 1)) + t194)) then (if (wrap64 ((wrap64 (x7 + 1)) + t194)) ≤ (x0.size : Int) then (some (x2, x3, x0.extract ((wrap64 (x5 + 1)) : Int).toNat ((wrap64 ((wrap64 (x7 + 1)) + t194)) : Int).toNat, wrap64 ((wrap64 (x7 + 1)) + t194))) else (none)) else (none)) else (none)) else (some (x2, x3, x4, x5)))) else (none)) else (none)) else (if 0 ≤ x7 then (if x7 ≤ (x0.size : Int) then ((texts_digits.f k (x0.extract (x7 : Int).toNat x0.size)).bind fun t195 => (if t195 > 0 then (if 0 ≤ (wrap64 (x5 + 1)) then (if (wrap64 (x5 + 1)) ≤ (wrap64 (x7 + t195)) then (if (wrap64 (x7 + t195)) ≤ (x0.size : Int) then (some (x2, x3, x0.extract ((wrap64 (x5 + 1)) : Int).toNat ((wrap64 (x7 + t195)) : Int).toNat, wrap64 (x7 + t195))) else (none)) else (none)) else (none)) else (some (x2, x3, x4, x5)))) else (none)) else (none))
end
def texts_parts.f (k : Nat) (a0 : ByteArray) : Option (ByteArray × ByteArray × ByteArray × Int) := (texts_digits.f k a0).bind fun t192 => (if 0 ≤ t192 then (if t192 ≤ (a0.size : Int) then (if t192 < (a0.size : Int) then (texts_parts.j0 k a0 (a0.extract 0 (t192 : Int).toNat) (⟨#[]⟩ : ByteArray) (⟨#[]⟩ : ByteArray) t192 ((bt a0 t192) == 46)) else (texts_parts.j0 k a0 (a0.extract 0 (t192 : Int).toNat) (⟨#[]⟩ : ByteArray) (⟨#[]⟩ : ByteArray) t192 false)) else (none)) else (none))
theorem texts_parts.mono_l : ∀ k, (∀ y0 y1 y2 y3 y4 y5, LeO (texts_parts.j0 k y0 y1 y2 y3 y4 y5) (texts_parts.j0 (k + 1) y0 y1 y2 y3 y4 y5)) ∧ (∀ y0 y1 y2 y3 y4, LeO (texts_parts.j1 k y0 y1 y2 y3 y4) (texts_parts.j1 (k + 1) y0 y1 y2 y3 y4)) ∧ (∀ y0 y1 y2 y3 y4 y5, LeO (texts_parts.j2 k y0 y1 y2 y3 y4 y5) (texts_parts.j2 (k + 1) y0 y1 y2 y3 y4 y5)) ∧ (∀ y0 y1 y2 y3 y4 y5 y6, LeO (texts_parts.j3 k y0 y1 y2 y3 y4 y5 y6) (texts_parts.j3 (k + 1) y0 y1 y2 y3 y4 y5 y6))
 | 0 => ⟨fun _ _ _ _ _ _ r h => by simp [texts_parts.j0] at h, fun _ _ _ _ _ r h => by simp [texts_parts.j1] at h, fun _ _ _ _ _ _ r h => by simp [texts_parts.j2] at h, fun _ _ _ _ _ _ _ r h => by simp [texts_parts.j3] at h⟩
 | k + 1 => by
  obtain ⟨ih0, ih1, ih2, ih3⟩ := texts_parts.mono_l k
  refine ⟨?_, ?_, ?_, ?_⟩
  ·intro y0 y1 y2 y3 y4 y5
   unfold texts_parts.j0
   repeat' first
   | (with_reducible exact ih0 _ _ _ _ _ _)
   | (with_reducible exact ih1 _ _ _ _ _)
   | (with_reducible exact ih2 _ _ _ _ _ _)
   | (with_reducible exact ih3 _ _ _ _ _ _ _)
   | (with_reducible exact texts_digits.mono _ _)
   | (with_reducible exact LeO.refl _)
   | (with_reducible exact LeO.none _)
   | (with_reducible refine LeO.ite ?_ ?_)
   | (with_reducible refine LeO.bind ?_ (fun _ => ?_))
   | exact ih0 _ _ _ _ _ _
   | exact ih1 _ _ _ _ _
   | exact ih2 _ _ _ _ _ _
   | exact ih3 _ _ _ _ _ _ _
   | exact texts_digits.mono _ _
   | exact LeO.none _
   | refine LeO.ite ?_ ?_
   | refine LeO.bind ?_ (fun _ => ?_)
  ·intro y0 y1 y2 y3 y4
   unfold texts_parts.j1
   repeat' first
   | (with_reducible exact ih0 _ _ _ _ _ _)
   | (with_reducible exact ih1 _ _ _ _ _)
   | (with_reducible exact ih2 _ _ _ _ _ _)
   | (with_reducible exact ih3 _ _ _ _ _ _ _)
   | (with_reducible exact texts_digits.mono _ _)
   | (with_reducible exact LeO.refl _)
   | (with_reducible exact LeO.none _)
   | (with_reducible refine LeO.ite ?_ ?_)
   | (with_reducible refine LeO.bind ?_ (fun _ => ?_))
   | exact ih0 _ _ _ _ _ _
   | exact ih1 _ _ _ _ _
   | exact ih2 _ _ _ _ _ _
   | exact ih3 _ _ _ _ _ _ _
   | exact texts_digits.mono _ _
   | exact LeO.none _
   | refine LeO.ite ?_ ?_
   | refine LeO.bind ?_ (fun _ => ?_)
  ·intro y0 y1 y2 y3 y4 y5
   unfold texts_parts.j2
   repeat' first
   | (with_reducible exact ih0 _ _ _ _ _ _)
   | (with_reducible exact ih1 _ _ _ _ _)
   | (with_reducible exact ih2 _ _ _ _ _ _)
   | (with_reducible exact ih3 _ _ _ _ _ _ _)
   | (with_reducible exact texts_digits.mono _ _)
   | (with_reducible exact LeO.refl _)
   | (with_reducible exact LeO.none _)
   | (with_reducible refine LeO.ite ?_ ?_)
   | (with_reducible refine LeO.bind ?_ (fun _ => ?_))
   | exact ih0 _ _ _ _ _ _
   | exact ih1 _ _ _ _ _
   | exact ih2 _ _ _ _ _ _
   | exact ih3 _ _ _ _ _ _ _
   | exact texts_digits.mono _ _
   | exact LeO.none _
   | refine LeO.ite ?_ ?_
   | refine LeO.bind ?_ (fun _ => ?_)
  ·intro y0 y1 y2 y3 y4 y5 y6
   unfold texts_parts.j3
   repeat' first
   | (with_reducible exact ih0 _ _ _ _ _ _)
   | (with_reducible exact ih1 _ _ _ _ _)
   | (with_reducible exact ih2 _ _ _ _ _ _)
   | (with_reducible exact ih3 _ _ _ _ _ _ _)
   | (with_reducible exact texts_digits.mono _ _)
   | (with_reducible exact LeO.refl _)
   | (with_reducible exact LeO.none _)
   | (with_reducible refine LeO.ite ?_ ?_)
   | (with_reducible refine LeO.bind ?_ (fun _ => ?_))
   | exact ih0 _ _ _ _ _ _
   | exact ih1 _ _ _ _ _
   | exact ih2 _ _ _ _ _ _
   | exact ih3 _ _ _ _ _ _ _
   | exact texts_digits.mono _ _
   | exact LeO.none _
   | refine LeO.ite ?_ ?_
   | refine LeO.bind ?_ (fun _ => ?_)
theorem texts_parts.mono : ∀ a0 k, LeO (texts_parts.f k a0) (texts_parts.f (k + 1) a0) := by
 intro a0 k
 obtain ⟨ih0, ih1, ih2, ih3⟩ := texts_parts.mono_l k
 unfold texts_parts.f
 repeat' first
   | (with_reducible exact ih0 _ _ _ _ _ _)
   | (with_reducible exact ih1 _ _ _ _ _)
   | (with_reducible exact ih2 _ _ _ _ _ _)
   | (with_reducible exact ih3 _ _ _ _ _ _ _)
   | (with_reducible exact texts_digits.mono _ _)
   | (with_reducible exact LeO.refl _)
   | (with_reducible exact LeO.none _)
   | (with_reducible refine LeO.ite ?_ ?_)
   | (with_reducible refine LeO.bind ?_ (fun _ => ?_))
   | exact ih0 _ _ _ _ _ _
   | exact ih1 _ _ _ _ _
   | exact ih2 _ _ _ _ _ _
   | exact ih3 _ _ _ _ _ _ _
   | exact texts_digits.mono _ _
   | exact LeO.none _
   | refine LeO.ite ?_ ?_
   | refine LeO.bind ?_ (fun _ => ?_)
set_option maxHeartbeats 8000000 in
set_option maxRecDepth 100000 in
theorem texts_parts.calls (k : Nat) (a0 : ByteArray) (r1 : ByteArray) (r2 : ByteArray) (r3 : ByteArray) (r4 : Int) (w : World) (h : texts_parts.f k a0 = some (r1, r2, r3, r4)) :
  Calls Tryz.prog 68 #[.string a0] w fun e w' => e = .returned (.tuple #[.string r1, .string r2, .string r3, .int .i64 r4]) ∧ Drawn0 w w' := by
 have H : ((texts_digits.f k a0).bind fun t192 => (if 0 ≤ t192 then (if t192 ≤ (a0.size : Int) then (if t192 < (a0.size : Int) then (texts_parts.j0 k a0 (a0.extract 0 (t192 : Int).toNat) (⟨#[]⟩ : ByteArray) (⟨#[]⟩ : ByteArray) t192 ((bt a0 t192) == 46)) else (texts_parts.j0 k a0 (a0.extract 0 (t192 : Int).toNat) (⟨#[]⟩ : ByteArray) (⟨#[]⟩ : ByteArray) t192 false)) else (none)) else (none))) = some (r1, r2, r3, r4) := h
 clear h
 replace H := Option.bind_eq_some_iff.mp H
 obtain ⟨t192, A20, H⟩ := H
 replace H : (if 0 ≤ t192 then (if t192 ≤ (a0.size : Int) then (if t192 < (a0.size : Int) then (texts_parts.j0 k a0 (a0.extract 0 (t192 : Int).toNat) (⟨#[]⟩ : ByteArray) (⟨#[]⟩ : ByteArray) t192 ((bt a0 t192) == 46)) else (texts_parts.j0 k a0 (a0.extract 0 (t192 : Int).toNat) (⟨#[]⟩ : ByteArray) (⟨#[]⟩ : ByteArray) t192 false)) else (none)) else (none)) = some (r1, r2, r3, r4) := H
 have A2 := Aside0.mk A20
 clear A20
 by_cases c3 : 0 ≤ t192
 ·rw [if_pos c3] at H
  have c3b0 := eq_true c3
  have c3b1 : decide (0 ≤ t192) = true := decide_eq_true c3
  clear c3
  by_cases c4 : t192 ≤ (a0.size : Int)
  ·rw [if_pos c4] at H
   have c4b0 := eq_true c4
   have c4b1 : decide (t192 ≤ (a0.size : Int)) = true := decide_eq_true c4
   clear c4
   have HC5 := Aside0.mk H
   clear H
   go_enter Tryz.func68, Tryz.ntmps68
   go_upto_region 3 with (first | ((with_reducible refine gate_callee (f := 62) rfl ?_); refine goesL_ (some 10) rfl rfl Tryz.func62 (by kernel_rfl) rfl #[.string a0] rfl (by (try simp only [List.map_toArray, List.map_cons, List.map_nil]); first | done | rfl | (simp only [List.length_drop, List.length_take]; rfl)) ?_; (with_reducible refine (texts_digits.calls k a0 t192 _ A2.out).mono ?_); rintro e w' ⟨rfl, ⟨nd, rfl⟩⟩; refine ⟨_, rfl, ?_⟩))
   (try simp only [sx])
   go_cut [23] (fun v23 wc => ∃ (kq : Nat) (x23_4 : Bool), v23 = .bool x23_4 ∧ Aside0 (texts_parts.j0 kq a0 (a0.extract 0 (t192 : Int).toNat) (⟨#[]⟩ : ByteArray) (⟨#[]⟩ : ByteArray) t192 x23_4 = some (r1, r2, r3, r4)) ∧ Aside0 (kq ≤ k) ∧ Drawn0 w wc)
   case first =>
    have H := HC5.out
    clear HC5
    by_cases c6 : t192 < (a0.size : Int)
    ·rw [if_pos c6] at H
     have c6b0 : decide (t192 < (a0.size : Int)) = true := decide_eq_true c6
     clear c6
     (first | rw [c6b0] | (simp only [i64_w, i32_w]; rw [c6b0]) | skip)
     have H' := Aside0.mk H
     clear H
     have p7 : 0 ≤ (t192 : Int) := of_decide_eq_true (by first | (with_reducible assumption) | assumption)
     have q7 : t192 < (a0.size : Int) := of_decide_eq_true (by first | (with_reducible assumption) | assumption)
     have hx7 := bt_at a0 t192
     replace p7 := eq_true p7
     replace q7 := eq_true q7
     go_wp2
     go_meet
     case rel => exact ⟨_, (((bt a0 t192) == 46)), (by first | rfl | (simp; done) | (simp [*]; done)), H', ⟨by first | omega | exact Nat.le_refl _⟩, by repeat (first | exact Drawn0.refl _ | apply Drawn0.step)⟩
    ·rw [if_neg c6] at H
     have c6b0 : decide (t192 < (a0.size : Int)) = false := decide_eq_false c6
     clear c6
     (first | rw [c6b0] | (simp only [i64_w, i32_w]; rw [c6b0]) | skip)
     have H' := Aside0.mk H
     clear H
     go_wp2
     go_meet
     case rel => exact ⟨_, (false), (by first | rfl | (simp; done) | (simp [*]; done)), H', ⟨by first | omega | exact Nat.le_refl _⟩, by repeat (first | exact Drawn0.refl _ | apply Drawn0.step)⟩
   case rest =>
    clear HC5
    try clear p2
    try clear c3
    try clear c3b0
    try clear c3b1
    try clear c4
    try clear c4b0
    try clear c4b1
    try clear c6
    try clear c6b0
    try clear p7
    try clear q7
    try clear hx7
    try clear p7
    try clear q7
    obtain ⟨kq, x23_4, rfl, HA, HJ4, ⟨mc4, rfl⟩⟩ := hcut
    cases kq with
    | zero => exact absurd HA.out (by simp [texts_parts.j0])
    | succ kj4 =>
     have H := HA.out
     clear HA
     simp only [texts_parts.j0] at H
     have HC8 := Aside0.mk H
     clear H
     go_upto_if 23 with (fail)
     go_cut [3, 5] (fun v3 v5 wc => ∃ (kq : Nat) (x3_7 : ByteArray) (x5_7 : Int), v3 = .string x3_7 ∧ v5 = .int .i64 x5_7 ∧ Aside0 (texts_parts.j1 kq a0 (a0.extract 0 (t192 : Int).toNat) x3_7 (⟨#[]⟩ : ByteArray) x5_7 = some (r1, r2, r3, r4)) ∧ Aside0 (kq ≤ kj4) ∧ Drawn0 w wc)
     case first =>
      have H := HC8.out
      clear HC8
      by_cases c9 : x23_4 = true
      ·subst c9
       have H1 : (if 0 ≤ (wrap64 (t192 + 1)) then (if (wrap64 (t192 + 1)) ≤ (a0.size : Int) then ((texts_digits.f kj4 (a0.extract ((wrap64 (t192 + 1)) : Int).toNat a0.size)).bind fun t193 => (if t193 > 0 then (if (wrap64 (t192 + 1)) ≤ (wrap64 ((wrap64 (t192 + 1)) + t193)) then (if (wrap64 ((wrap64 (t192 + 1)) + t193)) ≤ (a0.size : Int) then (texts_parts.j1 kj4 a0 (a0.extract 0 (t192 : Int).toNat) (a0.extract ((wrap64 (t192 + 1)) : Int).toNat ((wrap64 ((wrap64 (t192 + 1)) + t193)) : Int).toNat) (⟨#[]⟩ : ByteArray) (wrap64 (t192 + (wrap64 (1 + t193))))) else (none)) else (none)) else (texts_parts.j1 kj4 a0 (a0.extract 0 (t192 : Int).toNat) (⟨#[]⟩ : ByteArray) (⟨#[]⟩ : ByteArray) t192))) else (none)) else (none)) = some (r1, r2, r3, r4) := by rw [if_pos rfl] at H; exact H
       clear H
       have H := H1
       clear H1
       obtain ⟨ji10, hji10⟩ : ∃ j_ : Int, (wrap64 (t192 + 1)) = j_ := ⟨_, rfl⟩
       replace H : (if 0 ≤ (ji10) then (if (ji10) ≤ (a0.size : Int) then ((texts_digits.f kj4 (a0.extract ((ji10) : Int).toNat a0.size)).bind fun t193 => (if t193 > 0 then (if (ji10) ≤ (wrap64 ((ji10) + t193)) then (if (wrap64 ((ji10) + t193)) ≤ (a0.size : Int) then (texts_parts.j1 kj4 a0 (a0.extract 0 (t192 : Int).toNat) (a0.extract ((ji10) : Int).toNat ((wrap64 ((ji10) + t193)) : Int).toNat) (⟨#[]⟩ : ByteArray) (wrap64 (t192 + (wrap64 (1 + t193))))) else (none)) else (none)) else (texts_parts.j1 kj4 a0 (a0.extract 0 (t192 : Int).toNat) (⟨#[]⟩ : ByteArray) (⟨#[]⟩ : ByteArray) t192))) else (none)) else (none)) = some (r1, r2, r3, r4) := by first | (rw [hji10] at H; exact H) | (simp only [hji10] at H ⊢; exact H)
       have hji10w : (IntKind.i64.wrap (t192 + 1)) = ji10 := (i64_w _).trans hji10
       by_cases c11 : 0 ≤ (ji10)
       ·rw [if_pos c11] at H
        have c11b0 := eq_true c11
        have c11b1 : decide (0 ≤ (ji10)) = true := decide_eq_true c11
        clear c11
        by_cases c12 : (ji10) ≤ (a0.size : Int)
        ·rw [if_pos c12] at H
         have c12b0 := eq_true c12
         have c12b1 : decide ((ji10) ≤ (a0.size : Int)) = true := decide_eq_true c12
         clear c12
         replace H := Option.bind_eq_some_iff.mp H
         obtain ⟨t193, A130, H⟩ := H
         replace H : (if t193 > 0 then (if (ji10) ≤ (wrap64 ((ji10) + t193)) then (if (wrap64 ((ji10) + t193)) ≤ (a0.size : Int) then (texts_parts.j1 kj4 a0 (a0.extract 0 (t192 : Int).toNat) (a0.extract ((ji10) : Int).toNat ((wrap64 ((ji10) + t193)) : Int).toNat) (⟨#[]⟩ : ByteArray) (wrap64 (t192 + (wrap64 (1 + t193))))) else (none)) else (none)) else (texts_parts.j1 kj4 a0 (a0.extract 0 (t192 : Int).toNat) (⟨#[]⟩ : ByteArray) (⟨#[]⟩ : ByteArray) t192)) = some (r1, r2, r3, r4) := H
         have A13 := Aside0.mk A130
         clear A130
         by_cases c14 : t193 > 0
         ·rw [if_pos c14] at H
          have c14b0 : decide (0 < t193) = true := decide_eq_true c14
          clear c14
          (first | rw [c14b0] | (simp only [i64_w, i32_w]; rw [c14b0]) | skip)
          have c15b0 := eq_true (of_decide_eq_true (by first | (with_reducible assumption) | assumption) : 0 ≤ (ji10))
          by_cases c16 : (ji10) ≤ (wrap64 ((ji10) + t193))
          ·rw [if_pos c16] at H
           have c16b0 := eq_true c16
           have c16b1 : decide ((ji10) ≤ (wrap64 ((ji10) + t193))) = true := decide_eq_true c16
           by_cases c17 : (wrap64 ((ji10) + t193)) ≤ (a0.size : Int)
           ·rw [if_pos c17] at H
            have c17b0 := eq_true c17
            have c17b1 : decide ((wrap64 ((ji10) + t193)) ≤ (a0.size : Int)) = true := decide_eq_true c17
            have H' := Aside0.mk H
            clear H
            go_wp2_with (first | ((with_reducible refine gate_callee (f := 62) rfl ?_); refine goesL_ (some 28) rfl rfl Tryz.func62 (by kernel_rfl) rfl #[.string (a0.extract ((ji10) : Int).toNat a0.size)] rfl (by (try simp only [List.map_toArray, List.map_cons, List.map_nil]); first | done | (simp only [hji10]; rfl) | rfl | (simp only [List.length_drop, List.length_take]; rfl)) ?_; (with_reducible refine (texts_digits.calls kj4 (a0.extract ((ji10) : Int).toNat a0.size) t193 _ A13.out).mono ?_); rintro e w' ⟨rfl, ⟨nd, rfl⟩⟩; refine ⟨_, rfl, ?_⟩))
            go_meet
            case rel => exact ⟨_, (a0.extract ((ji10) : Int).toNat ((wrap64 ((ji10) + t193)) : Int).toNat), (wrap64 (t192 + (wrap64 (1 + t193)))), (by first | rfl | (simp; done) | (simp only [← hji10] <;> (first | rfl | simp)) | (simp [*]; done)), (by first | rfl | (simp; done) | (simp [*]; done)), H', ⟨by have := HJ4.out; first | omega | exact Nat.le_refl _⟩, by repeat (first | exact Drawn0.refl _ | apply Drawn0.step)⟩
           ·rw [if_neg c17] at H
            exact absurd H (by simp)
          ·rw [if_neg c16] at H
           exact absurd H (by simp)
         ·rw [if_neg c14] at H
          have c14b0 : decide (0 < t193) = false := decide_eq_false c14
          clear c14
          (first | rw [c14b0] | (simp only [i64_w, i32_w]; rw [c14b0]) | skip)
          have H' := Aside0.mk H
          clear H
          go_wp2_with (first | ((with_reducible refine gate_callee (f := 62) rfl ?_); refine goesL_ (some 28) rfl rfl Tryz.func62 (by kernel_rfl) rfl #[.string (a0.extract ((ji10) : Int).toNat a0.size)] rfl (by (try simp only [List.map_toArray, List.map_cons, List.map_nil]); first | done | (simp only [hji10]; rfl) | rfl | (simp only [List.length_drop, List.length_take]; rfl)) ?_; (with_reducible refine (texts_digits.calls kj4 (a0.extract ((ji10) : Int).toNat a0.size) t193 _ A13.out).mono ?_); rintro e w' ⟨rfl, ⟨nd, rfl⟩⟩; refine ⟨_, rfl, ?_⟩))
          go_meet
          case rel => exact ⟨_, ((⟨#[]⟩ : ByteArray)), (t192), (by first | rfl | (simp; done) | (simp [*]; done)), (by first | rfl | (simp; done) | (simp [*]; done)), H', ⟨by have := HJ4.out; first | omega | exact Nat.le_refl _⟩, by repeat (first | exact Drawn0.refl _ | apply Drawn0.step)⟩
        ·rw [if_neg c12] at H
         exact absurd H (by simp)
       ·rw [if_neg c11] at H
        exact absurd H (by simp)
      ·replace c9 := Bool.eq_false_iff.mpr c9
       subst c9
       have H1 : (texts_parts.j1 kj4 a0 (a0.extract 0 (t192 : Int).toNat) (⟨#[]⟩ : ByteArray) (⟨#[]⟩ : ByteArray) t192) = some (r1, r2, r3, r4) := by rw [if_neg (show ¬ (false = true) by decide)] at H; exact H
       clear H
       have H := H1
       clear H1
       have H' := Aside0.mk H
       clear H
       go_wp2
       go_meet
       case rel => exact ⟨_, ((⟨#[]⟩ : ByteArray)), (t192), (by first | rfl | (simp; done) | (simp [*]; done)), (by first | rfl | (simp; done) | (simp [*]; done)), H', ⟨by have := HJ4.out; first | omega | exact Nat.le_refl _⟩, by repeat (first | exact Drawn0.refl _ | apply Drawn0.step)⟩
     case rest =>
      clear HC8
      try clear c1
      try clear p2
      try clear c3
      try clear c3b0
      try clear c3b1
      try clear c4
      try clear c4b0
      try clear c4b1
      try clear c6
      try clear c6b0
      try clear p6
      try clear p7
      try clear q7
      try clear hx7
      try clear c9
      try clear c11
      try clear c11b0
      try clear c11b1
      try clear c12
      try clear c12b0
      try clear c12b1
      try clear c14
      try clear c14b0
      try clear c15
      try clear c15b0
      try clear c16
      try clear c16b0
      try clear c16b1
      try clear c17
      try clear c17b0
      try clear c17b1
      try clear p2
      try clear p7
      try clear q7
      obtain ⟨kq, x3_7, x5_7, rfl, rfl, HA, HJ7, ⟨mc7, rfl⟩⟩ := hcut
      cases kq with
      | zero => exact absurd HA.out (by simp [texts_parts.j1])
      | succ kj7 =>
       have H := HA.out
       clear HA
       simp only [texts_parts.j1] at H
       by_cases c18 : (a0.extract 0 (t192 : Int).toNat).size + x3_7.size ≤ 9223372036854775807
       ·rw [if_pos c18] at H
        have c18b0 := eq_true c18
        have c18b1 : decide ((a0.extract 0 (t192 : Int).toNat).size + x3_7.size ≤ 9223372036854775807) = true := decide_eq_true c18
        try have c18b2 : (9223372036854775807 < (a0.extract 0 (t192 : Int).toNat).size + x3_7.size) = False := eq_false (Nat.not_lt.2 c18)
        by_cases c19 : ((a0.extract 0 (t192 : Int).toNat) ++ x3_7).toList = ([] : List UInt8)
        ·rw [if_pos c19] at H
         have c19b0 : (((a0.extract 0 (t192 : Int).toNat) ++ x3_7).toList == ([] : List UInt8)) = true := beq_iff_eq.mpr c19
         have c19b1 : (((a0.extract 0 (t192 : Int).toNat) ++ x3_7).toList != ([] : List UInt8)) = false := bne_eq_false_iff_eq.mpr c19
         clear c19
         simp only [Option.some.injEq, Prod.mk.injEq] at H
         obtain ⟨rfl, rfl, rfl, rfl⟩ := H
         go_wp2
         refine bodyPost_ret (results_list (rs := [.tmp 2, .tmp 3, .tmp 4, .tmp 5]) rfl (by simp) (.tmp (.tmp (.tmp (.tmp .nil))))) rfl ?_
         exact ⟨by first | rfl | (simp; done) | (simp [*]; done), by repeat (first | exact Drawn0.refl _ | apply Drawn0.step)⟩
        ·rw [if_neg c19] at H
         have c19b0 : (((a0.extract 0 (t192 : Int).toNat) ++ x3_7).toList == ([] : List UInt8)) = false := beq_eq_false_iff_ne.mpr c19
         have c19b1 : (((a0.extract 0 (t192 : Int).toNat) ++ x3_7).toList != ([] : List UInt8)) = true := bne_iff_ne.mpr c19
         have HC20 := Aside0.mk H
         clear H
         go_upto_region 10 with (fail)
         go_cut [56] (fun v56 wc => ∃ (kq : Nat) (x56_19 : Bool), v56 = .bool x56_19 ∧ Aside0 (texts_parts.j2 kq a0 (a0.extract 0 (t192 : Int).toNat) x3_7 (⟨#[]⟩ : ByteArray) x5_7 x56_19 = some (r1, r2, r3, r4)) ∧ Aside0 (kq ≤ kj7) ∧ Drawn0 w wc)
         case first =>
          have H := HC20.out
          clear HC20
          by_cases c21 : x5_7 < (a0.size : Int)
          ·rw [if_pos c21] at H
           have c21b0 : decide (x5_7 < (a0.size : Int)) = true := decide_eq_true c21
           clear c21
           (first | rw [c21b0] | (simp only [i64_w, i32_w]; rw [c21b0]) | skip)
           by_cases c22 : 0 ≤ x5_7
           ·rw [if_pos c22] at H
            have c22b0 : decide (0 ≤ x5_7) = true := decide_eq_true c22
            clear c22
            have H' := Aside0.mk H
            clear H
            have p23 : 0 ≤ (x5_7 : Int) := of_decide_eq_true (by first | (with_reducible assumption) | assumption)
            have q23 : x5_7 < (a0.size : Int) := of_decide_eq_true (by first | (with_reducible assumption) | assumption)
            have hx23 := bt_at a0 x5_7
            replace p23 := eq_true p23
            replace q23 := eq_true q23
            go_wp2
            go_meet
            case rel => exact ⟨_, (((bt a0 x5_7) == 101)), (by first | rfl | (simp; done) | (simp [*]; done)), H', ⟨by have := HJ4.out; have := HJ7.out; first | omega | exact Nat.le_refl _⟩, by repeat (first | exact Drawn0.refl _ | apply Drawn0.step)⟩
           ·rw [if_neg c22] at H
            exact absurd H (by simp)
          ·rw [if_neg c21] at H
           have c21b0 : decide (x5_7 < (a0.size : Int)) = false := decide_eq_false c21
           clear c21
           (first | rw [c21b0] | (simp only [i64_w, i32_w]; rw [c21b0]) | skip)
           have H' := Aside0.mk H
           clear H
           go_wp2
           go_meet
           case rel => exact ⟨_, (false), (by first | rfl | (simp; done) | (simp [*]; done)), H', ⟨by have := HJ4.out; have := HJ7.out; first | omega | exact Nat.le_refl _⟩, by repeat (first | exact Drawn0.refl _ | apply Drawn0.step)⟩
         case rest =>
          clear HC20
          try clear c1
          try clear c2
          try clear p2
          try clear q2
          try clear hx2
          try clear c3
          try clear c3b0
          try clear c3b1
          try clear c4
          try clear c4b0
          try clear c4b1
          try clear c6
          try clear c6b0
          try clear p6
          try clear c7
          try clear p7
          try clear q7
          try clear hx7
          try clear c9
          try clear c11
          try clear c11b0
          try clear c11b1
          try clear c12
          try clear c12b0
          try clear c12b1
          try clear c14
          try clear c14b0
          try clear c15
          try clear c15b0
          try clear c16
          try clear c16b0
          try clear c16b1
          try clear c17
          try clear c17b0
          try clear c17b1
          try clear c18
          try clear c18b0
          try clear c18b1
          try clear c18b2
          try clear c19
          try clear c19b0
          try clear c19b1
          try clear c21
          try clear c21b0
          try clear c22
          try clear c22b0
          try clear p23
          try clear q23
          try clear hx23
          try clear p2
          try clear p23
          try clear p6
          try clear p7
          try clear q23
          try clear q7
          obtain ⟨kq, x56_19, rfl, HA, HJ19, ⟨mc19, rfl⟩⟩ := hcut
          cases kq with
          | zero => exact absurd HA.out (by simp [texts_parts.j2])
          | succ kj19 =>
           have H := HA.out
           clear HA
           simp only [texts_parts.j2] at H
           by_cases c24 : x56_19 = true
           ·subst c24
            have H1 : (if (wrap64 (x5_7 + 1)) < (a0.size : Int) then (if 0 ≤ (wrap64 (x5_7 + 1)) then (if (bt a0 (wrap64 (x5_7 + 1))) = 43 then (texts_parts.j3 kj19 a0 (a0.extract 0 (t192 : Int).toNat) x3_7 (⟨#[]⟩ : ByteArray) x5_7 (wrap64 (x5_7 + 1)) true) else (texts_parts.j3 kj19 a0 (a0.extract 0 (t192 : Int).toNat) x3_7 (⟨#[]⟩ : ByteArray) x5_7 (wrap64 (x5_7 + 1)) ((bt a0 (wrap64 (x5_7 + 1))) == 45))) else (none)) else (texts_parts.j3 kj19 a0 (a0.extract 0 (t192 : Int).toNat) x3_7 (⟨#[]⟩ : ByteArray) x5_7 (wrap64 (x5_7 + 1)) false)) = some (r1, r2, r3, r4) := by rw [if_pos rfl] at H; exact H
            clear H
            have H := H1
            clear H1
            have HC25 := Aside0.mk H
            clear H
            go_upto_region 12 with (fail)
            go_cut [74] (fun v74 wc => ∃ (kq : Nat) (x74_24 : Bool), v74 = .bool x74_24 ∧ Aside0 (texts_parts.j3 kq a0 (a0.extract 0 (t192 : Int).toNat) x3_7 (⟨#[]⟩ : ByteArray) x5_7 (wrap64 (x5_7 + 1)) x74_24 = some (r1, r2, r3, r4)) ∧ Aside0 (kq ≤ kj19) ∧ Drawn0 w wc)
            case first =>
             have H := HC25.out
             clear HC25
             by_cases c26 : (wrap64 (x5_7 + 1)) < (a0.size : Int)
             ·rw [if_pos c26] at H
              have c26b0 : decide ((wrap64 (x5_7 + 1)) < (a0.size : Int)) = true := decide_eq_true c26
              clear c26
              (first | rw [c26b0] | (simp only [i64_w, i32_w]; rw [c26b0]) | skip)
              obtain ⟨ji27, hji27⟩ : ∃ j_ : Int, (wrap64 (x5_7 + 1)) = j_ := ⟨_, rfl⟩
              replace H : (if 0 ≤ (ji27) then (if (bt a0 (ji27)) = 43 then (texts_parts.j3 kj19 a0 (a0.extract 0 (t192 : Int).toNat) x3_7 (⟨#[]⟩ : ByteArray) x5_7 ji27 true) else (texts_parts.j3 kj19 a0 (a0.extract 0 (t192 : Int).toNat) x3_7 (⟨#[]⟩ : ByteArray) x5_7 ji27 ((bt a0 (ji27)) == 45))) else (none)) = some (r1, r2, r3, r4) := by first | (rw [hji27] at H; exact H) | (simp only [hji27] at H ⊢; exact H)
              (try rw [hji27] at c26b0)
              have hji27w : (IntKind.i64.wrap (x5_7 + 1)) = ji27 := (i64_w _).trans hji27
              by_cases c28 : 0 ≤ (ji27)
              ·rw [if_pos c28] at H
               have c28b0 : decide (0 ≤ (ji27)) = true := decide_eq_true c28
               clear c28
               by_cases c30 : (bt a0 (ji27)) = 43
               ·rw [if_pos c30] at H
                have c30b0 : ((bt a0 (ji27)) == 43) = true := beq_iff_eq.mpr c30
                have c30b1 : ((bt a0 (ji27)) != 43) = false := bne_eq_false_iff_eq.mpr c30
                clear c30
                have H' := Aside0.mk H
                clear H
                have p29 : 0 ≤ ((ji27) : Int) := of_decide_eq_true (by first | (with_reducible assumption) | assumption)
                have q29 : (ji27) < (a0.size : Int) := of_decide_eq_true (by first | (with_reducible assumption) | assumption)
                have hx29 := bt_at a0 (ji27)
                replace p29 := eq_true p29
                replace q29 := eq_true q29
                go_wp2
                go_meet
                case rel => exact ⟨_, (true), (by first | rfl | (simp; done) | (simp [*]; done)), (by first | exact H' | (rw [hji27]; exact H')), ⟨by have := HJ4.out; have := HJ7.out; have := HJ19.out; first | omega | exact Nat.le_refl _⟩, by repeat (first | exact Drawn0.refl _ | apply Drawn0.step)⟩
               ·rw [if_neg c30] at H
                have c30b0 : ((bt a0 (ji27)) == 43) = false := beq_eq_false_iff_ne.mpr c30
                have c30b1 : ((bt a0 (ji27)) != 43) = true := bne_iff_ne.mpr c30
                have H' := Aside0.mk H
                clear H
                have p29 : 0 ≤ ((ji27) : Int) := of_decide_eq_true (by first | (with_reducible assumption) | assumption)
                have q29 : (ji27) < (a0.size : Int) := of_decide_eq_true (by first | (with_reducible assumption) | assumption)
                have hx29 := bt_at a0 (ji27)
                replace p29 := eq_true p29
                replace q29 := eq_true q29
                have p31 : 0 ≤ ((ji27) : Int) := of_decide_eq_true (by first | (with_reducible assumption) | assumption)
                have q31 : (ji27) < (a0.size : Int) := of_decide_eq_true (by first | (with_reducible assumption) | assumption)
                have hx31 := bt_at a0 (ji27)
                replace p31 := eq_true p31
                replace q31 := eq_true q31
                go_wp2
                go_meet
                case rel => exact ⟨_, (((bt a0 (ji27)) == 45)), (by first | rfl | (simp; done) | (simp only [← hji27] <;> (first | rfl | simp)) | (simp [*]; done)), (by first | exact H' | (rw [hji27]; exact H')), ⟨by have := HJ4.out; have := HJ7.out; have := HJ19.out; first | omega | exact Nat.le_refl _⟩, by repeat (first | exact Drawn0.refl _ | apply Drawn0.step)⟩
              ·rw [if_neg c28] at H
               exact absurd H (by simp)
             ·rw [if_neg c26] at H
              have c26b0 : decide ((wrap64 (x5_7 + 1)) < (a0.size : Int)) = false := decide_eq_false c26
              clear c26
              (first | rw [c26b0] | (simp only [i64_w, i32_w]; rw [c26b0]) | skip)
              have H' := Aside0.mk H
              clear H
              go_wp2
              go_meet
              case rel => exact ⟨_, (false), (by first | rfl | (simp; done) | (simp [*]; done)), (by first | exact H' | (rw [hji27]; exact H')), ⟨by have := HJ4.out; have := HJ7.out; have := HJ19.out; first | omega | exact Nat.le_refl _⟩, by repeat (first | exact Drawn0.refl _ | apply Drawn0.step)⟩
            case rest =>
             clear HC25
             try clear c1
             try clear c2
             try clear p2
             try clear q2
             try clear hx2
             try clear c3
             try clear c3b0
             try clear c3b1
             try clear p3
             try clear q3
             try clear hx3
             try clear c4
             try clear c4b0
             try clear c4b1
             try clear c6
             try clear c6b0
             try clear p6
             try clear c7
             try clear p7
             try clear q7
             try clear hx7
             try clear c9
             try clear c11
             try clear c11b0
             try clear c11b1
             try clear c12
             try clear c12b0
             try clear c12b1
             try clear c14
             try clear c14b0
             try clear c15
             try clear c15b0
             try clear c16
             try clear c16b0
             try clear c16b1
             try clear c17
             try clear c17b0
             try clear c17b1
             try clear c18
             try clear c18b0
             try clear c18b1
             try clear c18b2
             try clear c19
             try clear c19b0
             try clear c19b1
             try clear c21
             try clear c21b0
             try clear c22
             try clear c22b0
             try clear p23
             try clear q23
             try clear hx23
             try clear c24
             try clear c26
             try clear c26b0
             try clear c28
             try clear c28b0
             try clear p29
             try clear q29
             try clear hx29
             try clear c30
             try clear c30b0
             try clear c30b1
             try clear p31
             try clear q31
             try clear hx31
             try clear p2
             try clear p23
             try clear p29
             try clear p31
             try clear p6
             try clear p7
             try clear q2
             try clear q23
             try clear q29
             try clear q31
             try clear q7
             obtain ⟨kq, x74_24, rfl, HA, HJ24, ⟨mc24, rfl⟩⟩ := hcut
             cases kq with
             | zero => exact absurd HA.out (by simp [texts_parts.j3])
             | succ kj24 =>
              have H := HA.out
              clear HA
              simp only [texts_parts.j3] at H
              by_cases c32 : x74_24 = true
              ·subst c32
               have H1 : (if 0 ≤ (wrap64 ((wrap64 (x5_7 + 1)) + 1)) then (if (wrap64 ((wrap64 (x5_7 + 1)) + 1)) ≤ (a0.size : Int) then ((texts_digits.f kj24 (a0.extract ((wrap64 ((wrap64 (x5_7 + 1)) + 1)) : Int).toNat a0.size)).bind fun t194 => (if t194 > 0 then (if 0 ≤ (wrap64 (x5_7 + 1)) then (if (wrap64 (x5_7 + 1)) ≤ (wrap64 ((wrap64 ((wrap64 (x5_7 + 1)) + 1)) + t194)) then (if (wrap64 ((wrap64 ((wrap64 (x5_7 + 1)) + 1)) + t194)) ≤ (a0.size : Int) then (some ((a0.extract 0 (t192 : Int).toNat), x3_7, a0.extract ((wrap64 (x5_7 + 1)) : Int).toNat ((wrap64 ((wrap64 ((wrap64 (x5_7 + 1)) + 1)) + t194)) : Int).toNat, wrap64 ((wrap64 ((wrap64 (x5_7 + 1)) + 1)) + t194))) else (none)) else (none)) else (none)) else (some ((a0.extract 0 (t192 : Int).toNat), x3_7, (⟨#[]⟩ : ByteArray), x5_7)))) else (none)) else (none)) = some (r1, r2, r3, r4) := by rw [if_pos rfl] at H; exact H
               clear H
               have H := H1
               clear H1
               obtain ⟨ji33, hji33⟩ : ∃ j_ : Int, (wrap64 ((wrap64 (x5_7 + 1)) + 1)) = j_ := ⟨_, rfl⟩
               replace H : (if 0 ≤ (ji33) then (if (ji33) ≤ (a0.size : Int) then ((texts_digits.f kj24 (a0.extract ((ji33) : Int).toNat a0.size)).bind fun t194 => (if t194 > 0 then (if 0 ≤ (wrap64 (x5_7 + 1)) then (if (wrap64 (x5_7 + 1)) ≤ (wrap64 ((ji33) + t194)) then (if (wrap64 ((ji33) + t194)) ≤ (a0.size : Int) then (some ((a0.extract 0 (t192 : Int).toNat), x3_7, a0.extract ((wrap64 (x5_7 + 1)) : Int).toNat ((wrap64 ((ji33) + t194)) : Int).toNat, wrap64 ((ji33) + t194))) else (none)) else (none)) else (none)) else (some ((a0.extract 0 (t192 : Int).toNat), x3_7, (⟨#[]⟩ : ByteArray), x5_7)))) else (none)) else (none)) = some (r1, r2, r3, r4) := by first | (rw [hji33] at H; exact H) | (simp only [hji33] at H ⊢; exact H)
               have hji33w : (IntKind.i64.wrap ((wrap64 (x5_7 + 1)) + 1)) = ji33 := (i64_w _).trans hji33
               by_cases c34 : 0 ≤ (ji33)
               ·rw [if_pos c34] at H
                have c34b0 := eq_true c34
                have c34b1 : decide (0 ≤ (ji33)) = true := decide_eq_true c34
                clear c34
                by_cases c35 : (ji33) ≤ (a0.size : Int)
                ·rw [if_pos c35] at H
                 have c35b0 := eq_true c35
                 have c35b1 : decide ((ji33) ≤ (a0.size : Int)) = true := decide_eq_true c35
                 clear c35
                 replace H := Option.bind_eq_some_iff.mp H
                 obtain ⟨t194, A360, H⟩ := H
                 replace H : (if t194 > 0 then (if 0 ≤ (wrap64 (x5_7 + 1)) then (if (wrap64 (x5_7 + 1)) ≤ (wrap64 ((ji33) + t194)) then (if (wrap64 ((ji33) + t194)) ≤ (a0.size : Int) then (some ((a0.extract 0 (t192 : Int).toNat), x3_7, a0.extract ((wrap64 (x5_7 + 1)) : Int).toNat ((wrap64 ((ji33) + t194)) : Int).toNat, wrap64 ((ji33) + t194))) else (none)) else (none)) else (none)) else (some ((a0.extract 0 (t192 : Int).toNat), x3_7, (⟨#[]⟩ : ByteArray), x5_7))) = some (r1, r2, r3, r4) := H
                 have A36 := Aside0.mk A360
                 clear A360
                 by_cases c37 : t194 > 0
                 ·rw [if_pos c37] at H
                  have c37b0 : decide (0 < t194) = true := decide_eq_true c37
                  clear c37
                  obtain ⟨ji38, hji38⟩ : ∃ j_ : Int, (wrap64 (x5_7 + 1)) = j_ := ⟨_, rfl⟩
                  replace H : (if 0 ≤ (ji38) then (if (ji38) ≤ (wrap64 ((ji33) + t194)) then (if (wrap64 ((ji33) + t194)) ≤ (a0.size : Int) then (some ((a0.extract 0 (t192 : Int).toNat), x3_7, a0.extract ((ji38) : Int).toNat ((wrap64 ((ji33) + t194)) : Int).toNat, wrap64 ((ji33) + t194))) else (none)) else (none)) else (none)) = some (r1, r2, r3, r4) := by first | (rw [hji38] at H; exact H) | (simp only [hji38] at H ⊢; exact H)
                  (try rw [hji38] at A36)
                  have hji38w : (IntKind.i64.wrap (x5_7 + 1)) = ji38 := (i64_w _).trans hji38
                  by_cases c39 : 0 ≤ (ji38)
                  ·rw [if_pos c39] at H
                   have c39b0 := eq_true c39
                   have c39b1 : decide (0 ≤ (ji38)) = true := decide_eq_true c39
                   clear c39
                   by_cases c40 : (ji38) ≤ (wrap64 ((ji33) + t194))
                   ·rw [if_pos c40] at H
                    have c40b0 := eq_true c40
                    have c40b1 : decide ((ji38) ≤ (wrap64 ((ji33) + t194))) = true := decide_eq_true c40
                    by_cases c41 : (wrap64 ((ji33) + t194)) ≤ (a0.size : Int)
                    ·rw [if_pos c41] at H
                     have c41b0 := eq_true c41
                     have c41b1 : decide ((wrap64 ((ji33) + t194)) ≤ (a0.size : Int)) = true := decide_eq_true c41
                     simp only [Option.some.injEq, Prod.mk.injEq] at H
                     obtain ⟨rfl, rfl, rfl, rfl⟩ := H
                     have hx33_ := hji33; (try rw [hji38] at hx33_); have hx33w_ := hji33w; (try rw [hji38] at hx33w_)
                     go_wp2_with (first | ((with_reducible refine gate_callee (f := 62) rfl ?_); refine goesL_ (some 80) rfl rfl Tryz.func62 (by kernel_rfl) rfl #[.string (a0.extract ((ji33) : Int).toNat a0.size)] rfl (by (try simp only [List.map_toArray, List.map_cons, List.map_nil]); first | done | (simp only [hji33]; rfl) | rfl | (simp only [List.length_drop, List.length_take]; rfl)) ?_; (with_reducible refine (texts_digits.calls kj24 (a0.extract ((ji33) : Int).toNat a0.size) t194 _ A36.out).mono ?_); rintro e w' ⟨rfl, ⟨nd, rfl⟩⟩; refine ⟨_, rfl, ?_⟩))
                     refine bodyPost_ret (results_list (rs := [.tmp 2, .tmp 3, .tmp 4, .tmp 5]) rfl (by simp) (.tmp (.tmp (.tmp (.tmp .nil))))) rfl ?_
                     exact ⟨by first | rfl | (simp; done) | (simp only [← hji33, ← hji38] <;> (first | rfl | simp)) | (simp [*]; done), by repeat (first | exact Drawn0.refl _ | apply Drawn0.step)⟩
                    ·rw [if_neg c41] at H
                     exact absurd H (by simp)
                   ·rw [if_neg c40] at H
                    exact absurd H (by simp)
                  ·rw [if_neg c39] at H
                   exact absurd H (by simp)
                 ·rw [if_neg c37] at H
                  have c37b0 : decide (0 < t194) = false := decide_eq_false c37
                  clear c37
                  simp only [Option.some.injEq, Prod.mk.injEq] at H
                  obtain ⟨rfl, rfl, rfl, rfl⟩ := H
                  go_wp2_with (first | ((with_reducible refine gate_callee (f := 62) rfl ?_); refine goesL_ (some 80) rfl rfl Tryz.func62 (by kernel_rfl) rfl #[.string (a0.extract ((ji33) : Int).toNat a0.size)] rfl (by (try simp only [List.map_toArray, List.map_cons, List.map_nil]); first | done | (simp only [hji33]; rfl) | rfl | (simp only [List.length_drop, List.length_take]; rfl)) ?_; (with_reducible refine (texts_digits.calls kj24 (a0.extract ((ji33) : Int).toNat a0.size) t194 _ A36.out).mono ?_); rintro e w' ⟨rfl, ⟨nd, rfl⟩⟩; refine ⟨_, rfl, ?_⟩))
                  refine bodyPost_ret (results_list (rs := [.tmp 2, .tmp 3, .tmp 4, .tmp 5]) rfl (by simp) (.tmp (.tmp (.tmp (.tmp .nil))))) rfl ?_
                  exact ⟨by first | rfl | (simp; done) | (simp only [← hji33] <;> (first | rfl | simp)) | (simp [*]; done), by repeat (first | exact Drawn0.refl _ | apply Drawn0.step)⟩
                ·rw [if_neg c35] at H
                 exact absurd H (by simp)
               ·rw [if_neg c34] at H
                exact absurd H (by simp)
              ·replace c32 := Bool.eq_false_iff.mpr c32
               subst c32
               have H1 : (if 0 ≤ (wrap64 (x5_7 + 1)) then (if (wrap64 (x5_7 + 1)) ≤ (a0.size : Int) then ((texts_digits.f kj24 (a0.extract ((wrap64 (x5_7 + 1)) : Int).toNat a0.size)).bind fun t195 => (if t195 > 0 then (if 0 ≤ (wrap64 (x5_7 + 1)) then (if (wrap64 (x5_7 + 1)) ≤ (wrap64 ((wrap64 (x5_7 + 1)) + t195)) then (if (wrap64 ((wrap64 (x5_7 + 1)) + t195)) ≤ (a0.size : Int) then (some ((a0.extract 0 (t192 : Int).toNat), x3_7, a0.extract ((wrap64 (x5_7 + 1)) : Int).toNat ((wrap64 ((wrap64 (x5_7 + 1)) + t195)) : Int).toNat, wrap64 ((wrap64 (x5_7 + 1)) + t195))) else (none)) else (none)) else (none)) else (some ((a0.extract 0 (t192 : Int).toNat), x3_7, (⟨#[]⟩ : ByteArray), x5_7)))) else (none)) else (none)) = some (r1, r2, r3, r4) := by rw [if_neg (show ¬ (false = true) by decide)] at H; exact H
               clear H
               have H := H1
               clear H1
               obtain ⟨ji42, hji42⟩ : ∃ j_ : Int, (wrap64 (x5_7 + 1)) = j_ := ⟨_, rfl⟩
               replace H : (if 0 ≤ (ji42) then (if (ji42) ≤ (a0.size : Int) then ((texts_digits.f kj24 (a0.extract ((ji42) : Int).toNat a0.size)).bind fun t195 => (if t195 > 0 then (if 0 ≤ (ji42) then (if (ji42) ≤ (wrap64 ((ji42) + t195)) then (if (wrap64 ((ji42) + t195)) ≤ (a0.size : Int) then (some ((a0.extract 0 (t192 : Int).toNat), x3_7, a0.extract ((ji42) : Int).toNat ((wrap64 ((ji42) + t195)) : Int).toNat, wrap64 ((ji42) + t195))) else (none)) else (none)) else (none)) else (some ((a0.extract 0 (t192 : Int).toNat), x3_7, (⟨#[]⟩ : ByteArray), x5_7)))) else (none)) else (none)) = some (r1, r2, r3, r4) := by first | (rw [hji42] at H; exact H) | (simp only [hji42] at H ⊢; exact H)
               have hji42w : (IntKind.i64.wrap (x5_7 + 1)) = ji42 := (i64_w _).trans hji42
               by_cases c43 : 0 ≤ (ji42)
               ·rw [if_pos c43] at H
                have c43b0 := eq_true c43
                have c43b1 : decide (0 ≤ (ji42)) = true := decide_eq_true c43
                clear c43
                by_cases c44 : (ji42) ≤ (a0.size : Int)
                ·rw [if_pos c44] at H
                 have c44b0 := eq_true c44
                 have c44b1 : decide ((ji42) ≤ (a0.size : Int)) = true := decide_eq_true c44
                 clear c44
                 replace H := Option.bind_eq_some_iff.mp H
                 obtain ⟨t195, A450, H⟩ := H
                 replace H : (if t195 > 0 then (if 0 ≤ (ji42) then (if (ji42) ≤ (wrap64 ((ji42) + t195)) then (if (wrap64 ((ji42) + t195)) ≤ (a0.size : Int) then (some ((a0.extract 0 (t192 : Int).toNat), x3_7, a0.extract ((ji42) : Int).toNat ((wrap64 ((ji42) + t195)) : Int).toNat, wrap64 ((ji42) + t195))) else (none)) else (none)) else (none)) else (some ((a0.extract 0 (t192 : Int).toNat), x3_7, (⟨#[]⟩ : ByteArray), x5_7))) = some (r1, r2, r3, r4) := H
                 have A45 := Aside0.mk A450
                 clear A450
                 by_cases c46 : t195 > 0
                 ·rw [if_pos c46] at H
                  have c46b0 : decide (0 < t195) = true := decide_eq_true c46
                  clear c46
                  by_cases c47 : 0 ≤ (ji42)
                  ·rw [if_pos c47] at H
                   have c47b0 := eq_true c47
                   have c47b1 : decide (0 ≤ (ji42)) = true := decide_eq_true c47
                   clear c47
                   by_cases c48 : (ji42) ≤ (wrap64 ((ji42) + t195))
                   ·rw [if_pos c48] at H
                    have c48b0 := eq_true c48
                    have c48b1 : decide ((ji42) ≤ (wrap64 ((ji42) + t195))) = true := decide_eq_true c48
                    by_cases c49 : (wrap64 ((ji42) + t195)) ≤ (a0.size : Int)
                    ·rw [if_pos c49] at H
                     have c49b0 := eq_true c49
                     have c49b1 : decide ((wrap64 ((ji42) + t195)) ≤ (a0.size : Int)) = true := decide_eq_true c49
                     simp only [Option.some.injEq, Prod.mk.injEq] at H
                     obtain ⟨rfl, rfl, rfl, rfl⟩ := H
                     go_wp2_with (first | ((with_reducible refine gate_callee (f := 62) rfl ?_); refine goesL_ (some 80) rfl rfl Tryz.func62 (by kernel_rfl) rfl #[.string (a0.extract ((ji42) : Int).toNat a0.size)] rfl (by (try simp only [List.map_toArray, List.map_cons, List.map_nil]); first | done | (simp only [hji42]; rfl) | rfl | (simp only [List.length_drop, List.length_take]; rfl)) ?_; (with_reducible refine (texts_digits.calls kj24 (a0.extract ((ji42) : Int).toNat a0.size) t195 _ A45.out).mono ?_); rintro e w' ⟨rfl, ⟨nd, rfl⟩⟩; refine ⟨_, rfl, ?_⟩))
                     refine bodyPost_ret (results_list (rs := [.tmp 2, .tmp 3, .tmp 4, .tmp 5]) rfl (by simp) (.tmp (.tmp (.tmp (.tmp .nil))))) rfl ?_
                     exact ⟨by first | rfl | (simp; done) | (simp only [← hji42] <;> (first | rfl | simp)) | (simp [*]; done), by repeat (first | exact Drawn0.refl _ | apply Drawn0.step)⟩
                    ·rw [if_neg c49] at H
                     exact absurd H (by simp)
                   ·rw [if_neg c48] at H
                    exact absurd H (by simp)
                  ·rw [if_neg c47] at H
                   exact absurd H (by simp)
                 ·rw [if_neg c46] at H
                  have c46b0 : decide (0 < t195) = false := decide_eq_false c46
                  clear c46
                  simp only [Option.some.injEq, Prod.mk.injEq] at H
                  obtain ⟨rfl, rfl, rfl, rfl⟩ := H
                  go_wp2_with (first | ((with_reducible refine gate_callee (f := 62) rfl ?_); refine goesL_ (some 80) rfl rfl Tryz.func62 (by kernel_rfl) rfl #[.string (a0.extract ((ji42) : Int).toNat a0.size)] rfl (by (try simp only [List.map_toArray, List.map_cons, List.map_nil]); first | done | (simp only [hji42]; rfl) | rfl | (simp only [List.length_drop, List.length_take]; rfl)) ?_; (with_reducible refine (texts_digits.calls kj24 (a0.extract ((ji42) : Int).toNat a0.size) t195 _ A45.out).mono ?_); rintro e w' ⟨rfl, ⟨nd, rfl⟩⟩; refine ⟨_, rfl, ?_⟩))
                  refine bodyPost_ret (results_list (rs := [.tmp 2, .tmp 3, .tmp 4, .tmp 5]) rfl (by simp) (.tmp (.tmp (.tmp (.tmp .nil))))) rfl ?_
                  exact ⟨by first | rfl | (simp; done) | (simp only [← hji42] <;> (first | rfl | simp)) | (simp [*]; done), by repeat (first | exact Drawn0.refl _ | apply Drawn0.step)⟩
                ·rw [if_neg c44] at H
                 exact absurd H (by simp)
               ·rw [if_neg c43] at H
                exact absurd H (by simp)
           ·replace c24 := Bool.eq_false_iff.mpr c24
            subst c24
            have H1 : (some ((a0.extract 0 (t192 : Int).toNat), x3_7, (⟨#[]⟩ : ByteArray), x5_7)) = some (r1, r2, r3, r4) := by rw [if_neg (show ¬ (false = true) by decide)] at H; exact H
            clear H
            have H := H1
            clear H1
            simp only [Option.some.injEq, Prod.mk.injEq] at H
            obtain ⟨rfl, rfl, rfl, rfl⟩ := H
            go_wp2
            refine bodyPost_ret (results_list (rs := [.tmp 2, .tmp 3, .tmp 4, .tmp 5]) rfl (by simp) (.tmp (.tmp (.tmp (.tmp .nil))))) rfl ?_
            exact ⟨by first | rfl | (simp; done) | (simp [*]; done), by repeat (first | exact Drawn0.refl _ | apply Drawn0.step)⟩
       ·rw [if_neg c18] at H
        exact absurd H (by simp)
  ·rw [if_neg c4] at H
   exact absurd H (by simp)
 ·rw [if_neg c3] at H
  exact absurd H (by simp)
end Go.Proofs.YtckbmniiecbalaaGreatDoor.PT
