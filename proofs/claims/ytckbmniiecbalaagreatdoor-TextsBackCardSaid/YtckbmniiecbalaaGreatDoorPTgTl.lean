-- written by a program of this session out of the kit's print (its words and its form)
import Derived.Test.YtckbmniiecbalaaGreatDoorPTgSa
import Derived.Test.YtckbmniiecbalaaGreatDoorPTgTe
import Derived.Test.YtckbmniiecbalaaGreatDoorPTgTh
import Derived.Test.YtckbmniiecbalaaGreatDoorPTsq
import Derived.Test.YtckbmniiecbalaaGreatDoorPTx0
namespace Go.Proofs.YtckbmniiecbalaaGreatDoor.PT
open Go.RowKit Go.Proofs.YtckbmniiecbalaaGreatDoorW.PrintWords Go.Proofs.YtckbmniiecbalaaGreatDoorW.PrintLast Go.Proofs.YtckbmniiecbalaaGreatDoorW.PrintMore
attribute [local go_sem] max2_int min2_int max_two min_two max_three min_three max_four min_four   -- for this text's walks alone
set_option linter.unusedVariables false
set_option linter.unusedSimpArgs false

/-! ### texts_Int: function 63 -/
def texts_Int.j0 : Nat → ByteArray → Int → Bool → Option (Int × Int)
 | 0, _, _, _ => none
 | k + 1, x1, x6, x19 => if x19 = true then (some (0, 9)) else ((texts_number.f x1 10 x6).bind fun bt488 => (if bt488.2 = true then (some (bt488.1, 0)) else (some (0, 11))))
def texts_Int.f (k : Nat) (a0 : Int) (a1 : ByteArray) : Option (Int × Int) := (ints_Max.f a0).bind fun bt485 => (if bt485.2 = 0 then (if a1.toList = ([] : List UInt8) then (texts_Int.j0 k a1 bt485.1 true) else ((texts_digits.f k a1).bind fun t487 => (texts_Int.j0 k a1 bt485.1 (decide (t487 < (a1.size : Int)))))) else (some (0, bt485.2)))
theorem texts_Int.mono_l : ∀ k, (∀ y0 y1 y2, LeO (texts_Int.j0 k y0 y1 y2) (texts_Int.j0 (k + 1) y0 y1 y2))
 | 0 => fun _ _ _ r h => by simp [texts_Int.j0] at h
 | k + 1 => by
  have ih0 := texts_Int.mono_l k
  ·intro y0 y1 y2
   unfold texts_Int.j0
   repeat' first
   | (with_reducible exact ih0 _ _ _)
   | (with_reducible exact texts_digits.mono _ _)
   | (with_reducible exact LeO.refl _)
   | (with_reducible exact LeO.none _)
   | (with_reducible refine LeO.ite ?_ ?_)
   | (with_reducible refine LeO.bind ?_ (fun _ => ?_))
   | exact ih0 _ _ _
   | exact texts_digits.mono _ _
   | exact LeO.none _
   | refine LeO.ite ?_ ?_
   | refine LeO.bind ?_ (fun _ => ?_)
theorem texts_Int.mono : ∀ a0 a1 k, LeO (texts_Int.f k a0 a1) (texts_Int.f (k + 1) a0 a1) := by
 intro a0 a1 k
 have ih0 := texts_Int.mono_l k
 unfold texts_Int.f
 repeat' first
   | (with_reducible exact ih0 _ _ _)
   | (with_reducible exact texts_digits.mono _ _)
   | (with_reducible exact LeO.refl _)
   | (with_reducible exact LeO.none _)
   | (with_reducible refine LeO.ite ?_ ?_)
   | (with_reducible refine LeO.bind ?_ (fun _ => ?_))
   | exact ih0 _ _ _
   | exact texts_digits.mono _ _
   | exact LeO.none _
   | refine LeO.ite ?_ ?_
   | refine LeO.bind ?_ (fun _ => ?_)
set_option maxHeartbeats 8000000 in
set_option maxRecDepth 100000 in
theorem texts_Int.calls (k : Nat) (a0 : Int) (a1 : ByteArray) (r1 : Int) (r2 : Int) (w : World) (h : texts_Int.f k a0 a1 = some (r1, r2)) :
  Calls Tryz.prog 63 #[.int .i64 a0, .string a1] w fun e w' => e = .returned (.tuple #[.int .i64 r1, .int .i64 r2]) ∧ Below w.heap.size w w' := by
 have HB := Aside0.mk (Below.refl w.heap.size w)
 have H : ((ints_Max.f a0).bind fun bt485 => (if bt485.2 = 0 then (if a1.toList = ([] : List UInt8) then (texts_Int.j0 k a1 bt485.1 true) else ((texts_digits.f k a1).bind fun t487 => (texts_Int.j0 k a1 bt485.1 (decide (t487 < (a1.size : Int)))))) else (some (0, bt485.2)))) = some (r1, r2) := h
 clear h
 replace H := Option.bind_eq_some_iff.mp H
 obtain ⟨⟨t485, t486⟩, A30, H⟩ := H
 replace H : (if t486 = 0 then (if a1.toList = ([] : List UInt8) then (texts_Int.j0 k a1 t485 true) else ((texts_digits.f k a1).bind fun t487 => (texts_Int.j0 k a1 t485 (decide (t487 < (a1.size : Int)))))) else (some (0, t486))) = some (r1, r2) := H
 have A3 := Aside0.mk A30
 clear A30
 by_cases c4 : t486 = 0
 ·rw [if_pos c4] at H
  have c4b0 : (t486 == 0) = true := beq_iff_eq.mpr c4
  have c4b1 : (t486 != 0) = false := bne_eq_false_iff_eq.mpr c4
  clear c4
  have HC5 := Aside0.mk H
  clear H
  go_enter Tryz.func63, Tryz.ntmps63
  go_upto_region 4 with (first | ((with_reducible refine gate_callee (f := 96) rfl ?_); refine goesL_ (some 12) rfl rfl Tryz.func96 (by kernel_rfl) rfl #[.int .i64 a0] rfl (by (try simp only [List.map_toArray, List.map_cons, List.map_nil]); first | done | rfl | (simp only [List.length_drop, List.length_take]; rfl)) ?_; (with_reducible refine (ints_Max.calls a0 t485 t486 _ A3.out).mono ?_); rintro e w6 ⟨rfl, hb⟩; refine ⟨_, rfl, ?_⟩; replace HB := Aside0.mk (below_step (bw HB) hb); (try clear hb); (try clear hb2); (try clear hk); (try clear hi)))
  (try simp only [sx])
  go_cut [19] (fun v19 wc => ∃ (kq : Nat) (x19_4 : Bool), v19 = .bool x19_4 ∧ Aside0 (texts_Int.j0 kq a1 t485 x19_4 = some (r1, r2)) ∧ Aside0 (kq ≤ k) ∧ Aside0 (Below w.heap.size w wc))
  case first =>
   have H := HC5.out
   clear HC5
   by_cases c7 : a1.toList = ([] : List UInt8)
   ·rw [if_pos c7] at H
    have c7b0 : (a1.toList == ([] : List UInt8)) = true := beq_iff_eq.mpr c7
    have c7b1 : (a1.toList != ([] : List UInt8)) = false := bne_eq_false_iff_eq.mpr c7
    clear c7
    (first | rw [c7b0] | (simp only [i64_w, i32_w]; rw [c7b0]) | skip)
    have H' := Aside0.mk H
    clear H
    go_wp2
    go_meet
    case rel => exact ⟨_, (true), (by first | rfl | (simp; done) | (simp [*]; done)), H', ⟨by first | omega | exact Nat.le_refl _⟩, ⟨bw HB⟩⟩
   ·rw [if_neg c7] at H
    have c7b0 : (a1.toList == ([] : List UInt8)) = false := beq_eq_false_iff_ne.mpr c7
    have c7b1 : (a1.toList != ([] : List UInt8)) = true := bne_iff_ne.mpr c7
    (first | rw [c7b0] | (simp only [i64_w, i32_w]; rw [c7b0]) | skip)
    replace H := Option.bind_eq_some_iff.mp H
    obtain ⟨t487, A80, H⟩ := H
    replace H : (texts_Int.j0 k a1 t485 (decide (t487 < (a1.size : Int)))) = some (r1, r2) := H
    have A8 := Aside0.mk A80
    clear A80
    have H' := Aside0.mk H
    clear H
    go_wp2_with (first | (go_at_call 62; (with_reducible refine (texts_digits.calls k a1 t487 _ A8.out).mono ?_); rintro e w' ⟨rfl, ⟨nd, rfl⟩⟩))
    go_meet
    case rel => exact ⟨_, (decide (t487 < (a1.size : Int))), (by first | rfl | (simp; done) | (simp [*]; done)), H', ⟨by first | omega | exact Nat.le_refl _⟩, ⟨bw HB⟩⟩
  case rest =>
   clear HC5
   try clear p2
   try clear c4
   try clear c4b0
   try clear c4b1
   try clear c6
   try clear c7
   try clear c7b0
   try clear c7b1
   obtain ⟨kq, x19_4, rfl, HA, HJ4, HB⟩ := hcut
   cases kq with
   | zero => exact absurd HA.out (by simp [texts_Int.j0])
   | succ kj4 =>
    have H := HA.out
    clear HA
    simp only [texts_Int.j0] at H
    by_cases c9 : x19_4 = true
    ·subst c9
     have H1 : (some (0, 9)) = some (r1, r2) := by rw [if_pos rfl] at H; exact H
     clear H
     have H := H1
     clear H1
     simp only [Option.some.injEq, Prod.mk.injEq] at H
     obtain ⟨rfl, rfl⟩ := H
     go_wp2
     go_ret2
     exact ⟨by first | rfl | (simp [errW_none, errW_some] <;> rfl) | (simp [*, errW_none, errW_some] <;> rfl), bw HB⟩
    ·replace c9 := Bool.eq_false_iff.mpr c9
     subst c9
     have H1 : ((texts_number.f a1 10 t485).bind fun bt488 => (if bt488.2 = true then (some (bt488.1, 0)) else (some (0, 11)))) = some (r1, r2) := by rw [if_neg (show ¬ (false = true) by decide)] at H; exact H
     clear H
     have H := H1
     clear H1
     replace H := Option.bind_eq_some_iff.mp H
     obtain ⟨⟨t488, t489⟩, A100, H⟩ := H
     replace H : (if t489 = true then (some (t488, 0)) else (some (0, 11))) = some (r1, r2) := H
     have A10 := Aside0.mk A100
     clear A100
     by_cases c11 : t489 = true
     ·subst c11
      have H1 : (some (t488, 0)) = some (r1, r2) := by rw [if_pos rfl] at H; exact H
      clear H
      have H := H1
      clear H1
      simp only [Option.some.injEq, Prod.mk.injEq] at H
      obtain ⟨rfl, rfl⟩ := H
      go_wp2_with (first | ((with_reducible refine gate_callee (f := 98) rfl ?_); refine goesL_ (some 32) rfl rfl Tryz.func98 (by kernel_rfl) rfl #[.string a1, .int .i64 10, .int .i64 t485] rfl (by (try simp only [List.map_toArray, List.map_cons, List.map_nil]); first | done | rfl | (simp only [List.length_drop, List.length_take]; rfl)) ?_; (with_reducible refine (texts_number.calls a1 10 t485 t488 true _ A10.out).mono ?_); rintro e w12 ⟨rfl, hb⟩; refine ⟨_, rfl, ?_⟩; replace HB := Aside0.mk (below_step (bw HB) hb); (try clear hb); (try clear hb2); (try clear hk); (try clear hi)))
      go_ret2
      exact ⟨by first | rfl | (simp [errW_none, errW_some] <;> rfl) | (simp [*, errW_none, errW_some] <;> rfl), bw HB⟩
     ·replace c11 := Bool.eq_false_iff.mpr c11
      subst c11
      have H1 : (some (0, 11)) = some (r1, r2) := by rw [if_neg (show ¬ (false = true) by decide)] at H; exact H
      clear H
      have H := H1
      clear H1
      simp only [Option.some.injEq, Prod.mk.injEq] at H
      obtain ⟨rfl, rfl⟩ := H
      go_wp2_with (first | ((with_reducible refine gate_callee (f := 98) rfl ?_); refine goesL_ (some 32) rfl rfl Tryz.func98 (by kernel_rfl) rfl #[.string a1, .int .i64 10, .int .i64 t485] rfl (by (try simp only [List.map_toArray, List.map_cons, List.map_nil]); first | done | rfl | (simp only [List.length_drop, List.length_take]; rfl)) ?_; (with_reducible refine (texts_number.calls a1 10 t485 t488 false _ A10.out).mono ?_); rintro e w13 ⟨rfl, hb⟩; refine ⟨_, rfl, ?_⟩; replace HB := Aside0.mk (below_step (bw HB) hb); (try clear hb); (try clear hb2); (try clear hk); (try clear hi)))
      go_ret2
      exact ⟨by first | rfl | (simp [errW_none, errW_some] <;> rfl) | (simp [*, errW_none, errW_some] <;> rfl), bw HB⟩
 ·rw [if_neg c4] at H
  have c4b0 : (t486 == 0) = false := beq_eq_false_iff_ne.mpr c4
  have c4b1 : (t486 != 0) = true := bne_iff_ne.mpr c4
  simp only [Option.some.injEq, Prod.mk.injEq] at H
  obtain ⟨rfl, rfl⟩ := H
  go_enter Tryz.func63, Tryz.ntmps63
  go_wp2_with (first | ((with_reducible refine gate_callee (f := 96) rfl ?_); refine goesL_ (some 12) rfl rfl Tryz.func96 (by kernel_rfl) rfl #[.int .i64 a0] rfl (by (try simp only [List.map_toArray, List.map_cons, List.map_nil]); first | done | rfl | (simp only [List.length_drop, List.length_take]; rfl)) ?_; (with_reducible refine (ints_Max.calls a0 t485 t486 _ A3.out).mono ?_); rintro e w14 ⟨rfl, hb⟩; refine ⟨_, rfl, ?_⟩; replace HB := Aside0.mk (below_step (bw HB) hb); (try clear hb); (try clear hb2); (try clear hk); (try clear hi)))
  go_ret2
  exact ⟨by first | rfl | (simp [errW_none, errW_some] <;> rfl) | (simp [*, errW_none, errW_some] <;> rfl), bw HB⟩

/-! ### texts_ReadInt: function 18 -/
def texts_ReadInt.f (k : Nat) (a0 : Int) (a1 : ByteArray) : Option (Int × Int × Int) := (texts_size.f a0).bind fun t490 => (if t490 = 0 then ((texts_start.f k a1 (⟨#[43, 45]⟩ : ByteArray)).bind fun bt491 => (if bt491.2.2 = 0 then (if 0 ≤ bt491.1 then (if bt491.1 ≤ (a1.size : Int) then ((texts_digits.f k (a1.extract (bt491.1 : Int).toNat a1.size)).bind fun t494 => (if bt491.1 ≤ (wrap64 (bt491.1 + t494)) then (if (wrap64 (bt491.1 + t494)) ≤ (a1.size : Int) then ((texts_Int.f k a0 (a1.extract (bt491.1 : Int).toNat ((wrap64 (bt491.1 + t494)) : Int).toNat)).bind fun bt495 => (if bt491.2.1 = true then (some (wrap64 (-bt495.1), wrap64 (bt491.1 + t494), bt495.2)) else (some (bt495.1, wrap64 (bt491.1 + t494), bt495.2)))) else (none)) else (none))) else (none)) else (none)) else (some (0, bt491.1, bt491.2.2)))) else (some (0, 0, t490)))
theorem texts_ReadInt.mono : ∀ a0 a1 k, LeO (texts_ReadInt.f k a0 a1) (texts_ReadInt.f (k + 1) a0 a1) := by
 intro a0 a1 k
 unfold texts_ReadInt.f
 repeat' first
   | (with_reducible exact texts_Int.mono _ _ _)
   | (with_reducible exact texts_digits.mono _ _)
   | (with_reducible exact texts_start.mono _ _ _)
   | (with_reducible exact LeO.refl _)
   | (with_reducible exact LeO.none _)
   | (with_reducible refine LeO.ite ?_ ?_)
   | (with_reducible refine LeO.bind ?_ (fun _ => ?_))
   | exact texts_Int.mono _ _ _
   | exact texts_digits.mono _ _
   | exact texts_start.mono _ _ _
   | exact LeO.none _
   | refine LeO.ite ?_ ?_
   | refine LeO.bind ?_ (fun _ => ?_)
set_option maxHeartbeats 8000000 in
set_option maxRecDepth 100000 in
theorem texts_ReadInt.calls (k : Nat) (a0 : Int) (a1 : ByteArray) (r1 : Int) (r2 : Int) (r3 : Int) (w : World) (h : texts_ReadInt.f k a0 a1 = some (r1, r2, r3)) :
  Calls Tryz.prog 18 #[.int .i64 a0, .string a1] w fun e w' => e = .returned (.tuple #[.int .i64 r1, .int .i64 r2, .int .i64 r3]) ∧ Below w.heap.size w w' := by
 have HB := Aside0.mk (Below.refl w.heap.size w)
 have H : ((texts_size.f a0).bind fun t490 => (if t490 = 0 then ((texts_start.f k a1 (⟨#[43, 45]⟩ : ByteArray)).bind fun bt491 => (if bt491.2.2 = 0 then (if 0 ≤ bt491.1 then (if bt491.1 ≤ (a1.size : Int) then ((texts_digits.f k (a1.extract (bt491.1 : Int).toNat a1.size)).bind fun t494 => (if bt491.1 ≤ (wrap64 (bt491.1 + t494)) then (if (wrap64 (bt491.1 + t494)) ≤ (a1.size : Int) then ((texts_Int.f k a0 (a1.extract (bt491.1 : Int).toNat ((wrap64 (bt491.1 + t494)) : Int).toNat)).bind fun bt495 => (if bt491.2.1 = true then (some (wrap64 (-bt495.1), wrap64 (bt491.1 + t494), bt495.2)) else (some (bt495.1, wrap64 (bt491.1 + t494), bt495.2)))) else (none)) else (none))) else (none)) else (none)) else (some (0, bt491.1, bt491.2.2)))) else (some (0, 0, t490)))) = some (r1, r2, r3) := h
 clear h
 replace H := Option.bind_eq_some_iff.mp H
 obtain ⟨t490, A30, H⟩ := H
 replace H : (if t490 = 0 then ((texts_start.f k a1 (⟨#[43, 45]⟩ : ByteArray)).bind fun bt491 => (if bt491.2.2 = 0 then (if 0 ≤ bt491.1 then (if bt491.1 ≤ (a1.size : Int) then ((texts_digits.f k (a1.extract (bt491.1 : Int).toNat a1.size)).bind fun t494 => (if bt491.1 ≤ (wrap64 (bt491.1 + t494)) then (if (wrap64 (bt491.1 + t494)) ≤ (a1.size : Int) then ((texts_Int.f k a0 (a1.extract (bt491.1 : Int).toNat ((wrap64 (bt491.1 + t494)) : Int).toNat)).bind fun bt495 => (if bt491.2.1 = true then (some (wrap64 (-bt495.1), wrap64 (bt491.1 + t494), bt495.2)) else (some (bt495.1, wrap64 (bt491.1 + t494), bt495.2)))) else (none)) else (none))) else (none)) else (none)) else (some (0, bt491.1, bt491.2.2)))) else (some (0, 0, t490))) = some (r1, r2, r3) := H
 have A3 := Aside0.mk A30
 clear A30
 by_cases c4 : t490 = 0
 ·rw [if_pos c4] at H
  have c4b0 : (t490 == 0) = true := beq_iff_eq.mpr c4
  have c4b1 : (t490 != 0) = false := bne_eq_false_iff_eq.mpr c4
  clear c4
  replace H := Option.bind_eq_some_iff.mp H
  obtain ⟨⟨t491, t492, t493⟩, A50, H⟩ := H
  replace H : (if t493 = 0 then (if 0 ≤ t491 then (if t491 ≤ (a1.size : Int) then ((texts_digits.f k (a1.extract (t491 : Int).toNat a1.size)).bind fun t494 => (if t491 ≤ (wrap64 (t491 + t494)) then (if (wrap64 (t491 + t494)) ≤ (a1.size : Int) then ((texts_Int.f k a0 (a1.extract (t491 : Int).toNat ((wrap64 (t491 + t494)) : Int).toNat)).bind fun bt495 => (if t492 = true then (some (wrap64 (-bt495.1), wrap64 (t491 + t494), bt495.2)) else (some (bt495.1, wrap64 (t491 + t494), bt495.2)))) else (none)) else (none))) else (none)) else (none)) else (some (0, t491, t493))) = some (r1, r2, r3) := H
  have A5 := Aside0.mk A50
  clear A50
  by_cases c6 : t493 = 0
  ·rw [if_pos c6] at H
   have c6b0 : (t493 == 0) = true := beq_iff_eq.mpr c6
   have c6b1 : (t493 != 0) = false := bne_eq_false_iff_eq.mpr c6
   clear c6
   by_cases c7 : 0 ≤ t491
   ·rw [if_pos c7] at H
    have c7b0 := eq_true c7
    have c7b1 : decide (0 ≤ t491) = true := decide_eq_true c7
    clear c7
    by_cases c8 : t491 ≤ (a1.size : Int)
    ·rw [if_pos c8] at H
     have c8b0 := eq_true c8
     have c8b1 : decide (t491 ≤ (a1.size : Int)) = true := decide_eq_true c8
     clear c8
     replace H := Option.bind_eq_some_iff.mp H
     obtain ⟨t494, A90, H⟩ := H
     replace H : (if t491 ≤ (wrap64 (t491 + t494)) then (if (wrap64 (t491 + t494)) ≤ (a1.size : Int) then ((texts_Int.f k a0 (a1.extract (t491 : Int).toNat ((wrap64 (t491 + t494)) : Int).toNat)).bind fun bt495 => (if t492 = true then (some (wrap64 (-bt495.1), wrap64 (t491 + t494), bt495.2)) else (some (bt495.1, wrap64 (t491 + t494), bt495.2)))) else (none)) else (none)) = some (r1, r2, r3) := H
     have A9 := Aside0.mk A90
     clear A90
     have c10b0 := eq_true (of_decide_eq_true (by first | (with_reducible assumption) | assumption) : 0 ≤ t491)
     by_cases c11 : t491 ≤ (wrap64 (t491 + t494))
     ·rw [if_pos c11] at H
      have c11b0 := eq_true c11
      have c11b1 : decide (t491 ≤ (wrap64 (t491 + t494))) = true := decide_eq_true c11
      by_cases c12 : (wrap64 (t491 + t494)) ≤ (a1.size : Int)
      ·rw [if_pos c12] at H
       have c12b0 := eq_true c12
       have c12b1 : decide ((wrap64 (t491 + t494)) ≤ (a1.size : Int)) = true := decide_eq_true c12
       replace H := Option.bind_eq_some_iff.mp H
       obtain ⟨⟨t495, t496⟩, A130, H⟩ := H
       replace H : (if t492 = true then (some (wrap64 (-t495), wrap64 (t491 + t494), t496)) else (some (t495, wrap64 (t491 + t494), t496))) = some (r1, r2, r3) := H
       have A13 := Aside0.mk A130
       clear A130
       by_cases c14 : t492 = true
       ·subst c14
        have H1 : (some (wrap64 (-t495), wrap64 (t491 + t494), t496)) = some (r1, r2, r3) := by rw [if_pos rfl] at H; exact H
        clear H
        have H := H1
        clear H1
        simp only [Option.some.injEq, Prod.mk.injEq] at H
        obtain ⟨rfl, rfl, rfl⟩ := H
        go_enter Tryz.func18, Tryz.ntmps18
        go_wp2_with (first | ((with_reducible refine gate_callee (f := 60) rfl ?_); refine goesL_ (some 14) rfl rfl Tryz.func60 (by kernel_rfl) rfl #[.int .i64 a0] rfl (by (try simp only [List.map_toArray, List.map_cons, List.map_nil]); first | done | rfl | (simp only [List.length_drop, List.length_take]; rfl)) ?_; (with_reducible refine (texts_size.calls a0 t490 _ A3.out).mono ?_); rintro e w15 ⟨rfl, hb⟩; refine ⟨_, rfl, ?_⟩; replace HB := Aside0.mk (below_step (bw HB) hb); (try clear hb); (try clear hb2); (try clear hk); (try clear hi)) | ((with_reducible refine gate_callee (f := 61) rfl ?_); refine goesL_ (some 20) rfl rfl Tryz.func61 (by kernel_rfl) rfl #[.string a1, .string (⟨#[43, 45]⟩ : ByteArray)] rfl (by (try simp only [List.map_toArray, List.map_cons, List.map_nil]); first | done | rfl | (simp only [List.length_drop, List.length_take]; rfl)) ?_; (with_reducible refine (texts_start.calls k a1 (⟨#[43, 45]⟩ : ByteArray) t491 true t493 _ A5.out).mono ?_); rintro e w' ⟨rfl, ⟨nd, rfl⟩⟩; refine ⟨_, rfl, ?_⟩) | ((with_reducible refine gate_callee (f := 62) rfl ?_); refine goesL_ (some 32) rfl rfl Tryz.func62 (by kernel_rfl) rfl #[.string (a1.extract (t491 : Int).toNat a1.size)] rfl (by (try simp only [List.map_toArray, List.map_cons, List.map_nil]); first | done | rfl | (simp only [List.length_drop, List.length_take]; rfl)) ?_; (with_reducible refine (texts_digits.calls k (a1.extract (t491 : Int).toNat a1.size) t494 _ A9.out).mono ?_); rintro e w' ⟨rfl, ⟨nd, rfl⟩⟩; refine ⟨_, rfl, ?_⟩) | ((with_reducible refine gate_callee (f := 63) rfl ?_); refine goesL_ (some 40) rfl rfl Tryz.func63 (by kernel_rfl) rfl #[.int .i64 a0, .string (a1.extract (t491 : Int).toNat ((wrap64 (t491 + t494)) : Int).toNat)] rfl (by (try simp only [List.map_toArray, List.map_cons, List.map_nil]); first | done | rfl | (simp only [List.length_drop, List.length_take]; rfl)) ?_; (with_reducible refine (texts_Int.calls k a0 (a1.extract (t491 : Int).toNat ((wrap64 (t491 + t494)) : Int).toNat) t495 t496 _ A13.out).mono ?_); rintro e w16 ⟨rfl, hb⟩; refine ⟨_, rfl, ?_⟩; replace HB := Aside0.mk (below_step (bw HB) hb); (try clear hb); (try clear hb2); (try clear hk); (try clear hi)))
        go_ret3
        exact ⟨by first | rfl | (simp [errW_none, errW_some] <;> rfl) | (simp [*, errW_none, errW_some] <;> rfl), bw HB⟩
       ·replace c14 := Bool.eq_false_iff.mpr c14
        subst c14
        have H1 : (some (t495, wrap64 (t491 + t494), t496)) = some (r1, r2, r3) := by rw [if_neg (show ¬ (false = true) by decide)] at H; exact H
        clear H
        have H := H1
        clear H1
        simp only [Option.some.injEq, Prod.mk.injEq] at H
        obtain ⟨rfl, rfl, rfl⟩ := H
        go_enter Tryz.func18, Tryz.ntmps18
        go_wp2_with (first | ((with_reducible refine gate_callee (f := 60) rfl ?_); refine goesL_ (some 14) rfl rfl Tryz.func60 (by kernel_rfl) rfl #[.int .i64 a0] rfl (by (try simp only [List.map_toArray, List.map_cons, List.map_nil]); first | done | rfl | (simp only [List.length_drop, List.length_take]; rfl)) ?_; (with_reducible refine (texts_size.calls a0 t490 _ A3.out).mono ?_); rintro e w17 ⟨rfl, hb⟩; refine ⟨_, rfl, ?_⟩; replace HB := Aside0.mk (below_step (bw HB) hb); (try clear hb); (try clear hb2); (try clear hk); (try clear hi)) | ((with_reducible refine gate_callee (f := 61) rfl ?_); refine goesL_ (some 20) rfl rfl Tryz.func61 (by kernel_rfl) rfl #[.string a1, .string (⟨#[43, 45]⟩ : ByteArray)] rfl (by (try simp only [List.map_toArray, List.map_cons, List.map_nil]); first | done | rfl | (simp only [List.length_drop, List.length_take]; rfl)) ?_; (with_reducible refine (texts_start.calls k a1 (⟨#[43, 45]⟩ : ByteArray) t491 false t493 _ A5.out).mono ?_); rintro e w' ⟨rfl, ⟨nd, rfl⟩⟩; refine ⟨_, rfl, ?_⟩) | ((with_reducible refine gate_callee (f := 62) rfl ?_); refine goesL_ (some 32) rfl rfl Tryz.func62 (by kernel_rfl) rfl #[.string (a1.extract (t491 : Int).toNat a1.size)] rfl (by (try simp only [List.map_toArray, List.map_cons, List.map_nil]); first | done | rfl | (simp only [List.length_drop, List.length_take]; rfl)) ?_; (with_reducible refine (texts_digits.calls k (a1.extract (t491 : Int).toNat a1.size) t494 _ A9.out).mono ?_); rintro e w' ⟨rfl, ⟨nd, rfl⟩⟩; refine ⟨_, rfl, ?_⟩) | ((with_reducible refine gate_callee (f := 63) rfl ?_); refine goesL_ (some 40) rfl rfl Tryz.func63 (by kernel_rfl) rfl #[.int .i64 a0, .string (a1.extract (t491 : Int).toNat ((wrap64 (t491 + t494)) : Int).toNat)] rfl (by (try simp only [List.map_toArray, List.map_cons, List.map_nil]); first | done | rfl | (simp only [List.length_drop, List.length_take]; rfl)) ?_; (with_reducible refine (texts_Int.calls k a0 (a1.extract (t491 : Int).toNat ((wrap64 (t491 + t494)) : Int).toNat) t495 t496 _ A13.out).mono ?_); rintro e w18 ⟨rfl, hb⟩; refine ⟨_, rfl, ?_⟩; replace HB := Aside0.mk (below_step (bw HB) hb); (try clear hb); (try clear hb2); (try clear hk); (try clear hi)))
        go_ret3
        exact ⟨by first | rfl | (simp [errW_none, errW_some] <;> rfl) | (simp [*, errW_none, errW_some] <;> rfl), bw HB⟩
      ·rw [if_neg c12] at H
       exact absurd H (by simp)
     ·rw [if_neg c11] at H
      exact absurd H (by simp)
    ·rw [if_neg c8] at H
     exact absurd H (by simp)
   ·rw [if_neg c7] at H
    exact absurd H (by simp)
  ·rw [if_neg c6] at H
   have c6b0 : (t493 == 0) = false := beq_eq_false_iff_ne.mpr c6
   have c6b1 : (t493 != 0) = true := bne_iff_ne.mpr c6
   simp only [Option.some.injEq, Prod.mk.injEq] at H
   obtain ⟨rfl, rfl, rfl⟩ := H
   go_enter Tryz.func18, Tryz.ntmps18
   go_wp2_with (first | ((with_reducible refine gate_callee (f := 60) rfl ?_); refine goesL_ (some 14) rfl rfl Tryz.func60 (by kernel_rfl) rfl #[.int .i64 a0] rfl (by (try simp only [List.map_toArray, List.map_cons, List.map_nil]); first | done | rfl | (simp only [List.length_drop, List.length_take]; rfl)) ?_; (with_reducible refine (texts_size.calls a0 t490 _ A3.out).mono ?_); rintro e w19 ⟨rfl, hb⟩; refine ⟨_, rfl, ?_⟩; replace HB := Aside0.mk (below_step (bw HB) hb); (try clear hb); (try clear hb2); (try clear hk); (try clear hi)) | ((with_reducible refine gate_callee (f := 61) rfl ?_); refine goesL_ (some 20) rfl rfl Tryz.func61 (by kernel_rfl) rfl #[.string a1, .string (⟨#[43, 45]⟩ : ByteArray)] rfl (by (try simp only [List.map_toArray, List.map_cons, List.map_nil]); first | done | rfl | (simp only [List.length_drop, List.length_take]; rfl)) ?_; (with_reducible refine (texts_start.calls k a1 (⟨#[43, 45]⟩ : ByteArray) t491 t492 t493 _ A5.out).mono ?_); rintro e w' ⟨rfl, ⟨nd, rfl⟩⟩; refine ⟨_, rfl, ?_⟩))
   go_ret3
   exact ⟨by first | rfl | (simp [errW_none, errW_some] <;> rfl) | (simp [*, errW_none, errW_some] <;> rfl), bw HB⟩
 ·rw [if_neg c4] at H
  have c4b0 : (t490 == 0) = false := beq_eq_false_iff_ne.mpr c4
  have c4b1 : (t490 != 0) = true := bne_iff_ne.mpr c4
  simp only [Option.some.injEq, Prod.mk.injEq] at H
  obtain ⟨rfl, rfl, rfl⟩ := H
  go_enter Tryz.func18, Tryz.ntmps18
  go_wp2_with (first | ((with_reducible refine gate_callee (f := 60) rfl ?_); refine goesL_ (some 14) rfl rfl Tryz.func60 (by kernel_rfl) rfl #[.int .i64 a0] rfl (by (try simp only [List.map_toArray, List.map_cons, List.map_nil]); first | done | rfl | (simp only [List.length_drop, List.length_take]; rfl)) ?_; (with_reducible refine (texts_size.calls a0 t490 _ A3.out).mono ?_); rintro e w20 ⟨rfl, hb⟩; refine ⟨_, rfl, ?_⟩; replace HB := Aside0.mk (below_step (bw HB) hb); (try clear hb); (try clear hb2); (try clear hk); (try clear hi)))
  go_ret3
  exact ⟨by first | rfl | (simp [errW_none, errW_some] <;> rfl) | (simp [*, errW_none, errW_some] <;> rfl), bw HB⟩
end Go.Proofs.YtckbmniiecbalaaGreatDoor.PT
