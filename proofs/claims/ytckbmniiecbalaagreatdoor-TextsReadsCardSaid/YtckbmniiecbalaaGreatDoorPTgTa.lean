-- written by a program of this session out of the kit's print (its words and its form)
import Derived.Test.YtckbmniiecbalaaGreatDoorPTgSa
import Derived.Test.YtckbmniiecbalaaGreatDoorPTsq
import Derived.Test.YtckbmniiecbalaaGreatDoorPTx0
namespace Go.Proofs.YtckbmniiecbalaaGreatDoor.PT
open Go.RowKit Go.Proofs.YtckbmniiecbalaaGreatDoorW.PrintWords Go.Proofs.YtckbmniiecbalaaGreatDoorW.PrintLast Go.Proofs.YtckbmniiecbalaaGreatDoorW.PrintMore
attribute [local go_sem] max2_int min2_int max_two min_two max_three min_three max_four min_four   -- for this text's walks alone
set_option linter.unusedVariables false
set_option linter.unusedSimpArgs false

/-! ### texts_wide: function 28 -/
def texts_wide.f (a0 : Int) : Option (Bool) := if a0 > 1000 then (some true) else (some (decide (a0 < (-1000))))
set_option maxHeartbeats 8000000 in
set_option maxRecDepth 100000 in
theorem texts_wide.calls (a0 : Int) (r : Bool) (w : World) (h : texts_wide.f a0 = some r) :
  Calls Tryz.prog 28 #[.int .i64 a0] w fun e w' => e = .returned (.bool r) ∧ Drawn0 w w' := by
 have H : (if a0 > 1000 then (some true) else (some (decide (a0 < (-1000))))) = some r := h
 clear h
 by_cases c2 : a0 > 1000
 ·rw [if_pos c2] at H
  have c2b0 := decide_eq_true c2
  clear c2
  obtain rfl := Option.some.inj H
  go_enter Tryz.func28, Tryz.ntmps28
  go_wp2
  go_ret
  exact ⟨q1, dz⟩
 ·rw [if_neg c2] at H
  have c2b0 := decide_eq_false c2
  clear c2
  obtain rfl := Option.some.inj H
  go_enter Tryz.func28, Tryz.ntmps28
  go_wp2
  go_ret
  exact ⟨q1, dz⟩

/-! ### texts_stars: function 29 -/
def texts_stars.f (a0 : Int) : Option (ByteArray) := (strings_Repeat.f (⟨#[42]⟩ : ByteArray) (mx (mx a0 (wrap64 (-a0))) 1)).bind fun t103 => (some t103)
set_option maxHeartbeats 8000000 in
set_option maxRecDepth 100000 in
theorem texts_stars.calls (a0 : Int) (r : ByteArray) (w : World) (h : texts_stars.f a0 = some r) :
  Calls Tryz.prog 29 #[.int .i64 a0] w fun e w' => e = .returned (.string r) ∧ Below w.heap.size w w' := by
 have HB := Aside0.mk (Below.refl w.heap.size w)
 have H : ((strings_Repeat.f (⟨#[42]⟩ : ByteArray) (mx (mx a0 (wrap64 (-a0))) 1)).bind fun t103 => (some t103)) = some r := h
 clear h
 obtain ⟨ji2, hji2⟩ : ∃ j_ : Int, (mx a0 (wrap64 (-a0))) = j_ := ⟨_, rfl⟩
 replace H : ((strings_Repeat.f (⟨#[42]⟩ : ByteArray) (mx (ji2) 1)).bind fun t103 => (some t103)) = some r := by first | (rw [hji2] at H; exact H) | (simp only [hji2] at H ⊢; exact H)
 have hji2_ : (if a0 < (wrap64 (-a0)) then (wrap64 (-a0)) else a0) = ji2 := hji2
 obtain ⟨ji3, hji3⟩ : ∃ j_ : Int, (mx (ji2) 1) = j_ := ⟨_, rfl⟩
 replace H : ((strings_Repeat.f (⟨#[42]⟩ : ByteArray) (ji3)).bind fun t103 => (some t103)) = some r := by first | (rw [hji3] at H; exact H) | (simp only [hji3] at H ⊢; exact H)
 have hji3_ : (if (ji2) < 1 then 1 else (ji2)) = ji3 := hji3
 replace H := Option.bind_eq_some_iff.mp H
 obtain ⟨t103, A40, H⟩ := H
 try dsimp only at H
 have A4 := Aside0.mk A40
 clear A40
 obtain rfl := Option.some.inj H
 go_enter Tryz.func29, Tryz.ntmps29
 go_wp2_with (first | (refine gc 36 ?_; refine goesL_ (some 7) rfl rfl Tryz.func36 (by kernel_rfl) rfl #[.string (⟨#[42]⟩ : ByteArray), .int .i64 ji3] rfl (by (try simp only [List.map_toArray, List.map_cons, List.map_nil]); first | done | (simp only [hji3]; rfl) | rfl | (simp only [List.length_drop, List.length_take]; rfl)) ?_; (with_reducible refine (strings_Repeat.calls (⟨#[42]⟩ : ByteArray) ji3 t103 _ A4.out).mono ?_); rintro e w5 ⟨rfl, hb⟩; refine ⟨_, rfl, ?_⟩; replace HB := bt_ HB hb; (try clear hb)))
 go_ret
 exact ⟨by first | rfl | (simp [errW_none, errW_some] <;> rfl) | (simp only [← hji2, ← hji3]; first | rfl | (simp [errW_none, errW_some] <;> rfl)) | (simp [*, errW_none, errW_some] <;> rfl), bw HB⟩

/-! ### texts_filled: function 30 -/
def texts_filled.f (a0 : ByteArray) (a1 : Int) : Option (ByteArray × Bool) := if a1 = 0 then (some (a0, true)) else (if (a0.size : Int) > (mx a1 (wrap64 (-a1))) then (some ((⟨#[]⟩ : ByteArray), false)) else ((strings_Repeat.f (⟨#[32]⟩ : ByteArray) (wrap64 ((mx a1 (wrap64 (-a1))) - (a0.size : Int)))).bind fun t104 => (if t104.size + a0.size ≤ 9223372036854775807 then (some (t104 ++ a0, true)) else (none))))
set_option maxHeartbeats 8000000 in
set_option maxRecDepth 100000 in
theorem texts_filled.calls (a0 : ByteArray) (a1 : Int) (r1 : ByteArray) (r2 : Bool) (w : World) (h : texts_filled.f a0 a1 = some (r1, r2)) :
  Calls Tryz.prog 30 #[.string a0, .int .i64 a1] w fun e w' => e = .returned (.tuple #[.string r1, .bool r2]) ∧ Below w.heap.size w w' := by
 have HB := Aside0.mk (Below.refl w.heap.size w)
 have H : (if a1 = 0 then (some (a0, true)) else (if (a0.size : Int) > (mx a1 (wrap64 (-a1))) then (some ((⟨#[]⟩ : ByteArray), false)) else ((strings_Repeat.f (⟨#[32]⟩ : ByteArray) (wrap64 ((mx a1 (wrap64 (-a1))) - (a0.size : Int)))).bind fun t104 => (if t104.size + a0.size ≤ 9223372036854775807 then (some (t104 ++ a0, true)) else (none))))) = some (r1, r2) := h
 clear h
 obtain ⟨ji3, hji3⟩ : ∃ j_ : Int, (mx a1 (wrap64 (-a1))) = j_ := ⟨_, rfl⟩
 replace H : (if a1 = 0 then (some (a0, true)) else (if (a0.size : Int) > (ji3) then (some ((⟨#[]⟩ : ByteArray), false)) else ((strings_Repeat.f (⟨#[32]⟩ : ByteArray) (wrap64 ((ji3) - (a0.size : Int)))).bind fun t104 => (if t104.size + a0.size ≤ 9223372036854775807 then (some (t104 ++ a0, true)) else (none))))) = some (r1, r2) := by first | (rw [hji3] at H; exact H) | (simp only [hji3] at H ⊢; exact H)
 have hji3_ : (if a1 < (wrap64 (-a1)) then (wrap64 (-a1)) else a1) = ji3 := hji3
 by_cases c4 : a1 = 0
 ·rw [if_pos c4] at H
  have c4b0 := beq_iff_eq.mpr c4
  have c4b1 := bne_eq_false_iff_eq.mpr c4
  clear c4
  simp only [Option.some.injEq, Prod.mk.injEq] at H
  obtain ⟨rfl, rfl⟩ := H
  go_enter Tryz.func30, Tryz.ntmps30
  go_wp2
  go_ret2
  exact ⟨by first | rfl | (simp [errW_none, errW_some] <;> rfl) | (simp only [← hji3]; first | rfl | (simp [errW_none, errW_some] <;> rfl)) | (simp [*, errW_none, errW_some] <;> rfl), bw HB⟩
 ·rw [if_neg c4] at H
  have c4b0 := beq_eq_false_iff_ne.mpr c4
  have c4b1 := bne_iff_ne.mpr c4
  by_cases c5 : (a0.size : Int) > (ji3)
  ·rw [if_pos c5] at H
   have c5b0 := decide_eq_true c5
   clear c5
   simp only [Option.some.injEq, Prod.mk.injEq] at H
   obtain ⟨rfl, rfl⟩ := H
   go_enter Tryz.func30, Tryz.ntmps30
   go_wp2
   go_ret2
   exact ⟨by first | rfl | (simp [errW_none, errW_some] <;> rfl) | (simp only [← hji3]; first | rfl | (simp [errW_none, errW_some] <;> rfl)) | (simp [*, errW_none, errW_some] <;> rfl), bw HB⟩
  ·rw [if_neg c5] at H
   have c5b0 := decide_eq_false c5
   clear c5
   replace H := Option.bind_eq_some_iff.mp H
   obtain ⟨t104, A60, H⟩ := H
   try dsimp only at H
   have A6 := Aside0.mk A60
   clear A60
   by_cases c7 : t104.size + a0.size ≤ 9223372036854775807
   ·rw [if_pos c7] at H
    have c7b0 := eq_true c7
    have c7b1 := decide_eq_true c7
    try have c7b2 : (9223372036854775807 < t104.size + a0.size) = False := eq_false (Nat.not_lt.2 c7)
    simp only [Option.some.injEq, Prod.mk.injEq] at H
    obtain ⟨rfl, rfl⟩ := H
    go_enter Tryz.func30, Tryz.ntmps30
    go_wp2_with (first | (refine gc 36 ?_; refine goesL_ (some 22) rfl rfl Tryz.func36 (by kernel_rfl) rfl #[.string (⟨#[32]⟩ : ByteArray), .int .i64 (wrap64 ((ji3) - (a0.size : Int)))] rfl (by (try simp only [List.map_toArray, List.map_cons, List.map_nil]); first | done | (simp only [hji3]; rfl) | rfl | (simp only [List.length_drop, List.length_take]; rfl)) ?_; (with_reducible refine (strings_Repeat.calls (⟨#[32]⟩ : ByteArray) (wrap64 ((ji3) - (a0.size : Int))) t104 _ A6.out).mono ?_); rintro e w8 ⟨rfl, hb⟩; refine ⟨_, rfl, ?_⟩; replace HB := bt_ HB hb; (try clear hb)))
    go_ret2
    exact ⟨by first | rfl | (simp [errW_none, errW_some] <;> rfl) | (simp only [← hji3]; first | rfl | (simp [errW_none, errW_some] <;> rfl)) | (simp [*, errW_none, errW_some] <;> rfl), bw HB⟩
   ·rw [if_neg c7] at H
    exact absurd H (by simp)

/-! ### texts_sign: function 31 -/
def texts_sign.f (a0 : Bool) (a1 : Int) : Option (ByteArray) := if a0 = true then (some (⟨#[45]⟩ : ByteArray)) else (if a1 > 0 then (some (⟨#[43]⟩ : ByteArray)) else (some (⟨#[]⟩ : ByteArray)))
set_option maxHeartbeats 8000000 in
set_option maxRecDepth 100000 in
theorem texts_sign.calls (a0 : Bool) (a1 : Int) (r : ByteArray) (w : World) (h : texts_sign.f a0 a1 = some r) :
  Calls Tryz.prog 31 #[.bool a0, .int .i64 a1] w fun e w' => e = .returned (.string r) ∧ Drawn0 w w' := by
 have H : (if a0 = true then (some (⟨#[45]⟩ : ByteArray)) else (if a1 > 0 then (some (⟨#[43]⟩ : ByteArray)) else (some (⟨#[]⟩ : ByteArray)))) = some r := h
 clear h
 by_cases c3 : a0 = true
 ·subst c3
  rw [if_pos rfl] at H
  obtain rfl := Option.some.inj H
  go_enter Tryz.func31, Tryz.ntmps31
  go_wp2
  go_ret
  exact ⟨q1, dz⟩
 ·replace c3 := Bool.eq_false_iff.mpr c3
  subst c3
  rw [if_neg (show ¬ (false = true) by decide)] at H
  by_cases c4 : a1 > 0
  ·rw [if_pos c4] at H
   have c4b0 := decide_eq_true c4
   clear c4
   obtain rfl := Option.some.inj H
   go_enter Tryz.func31, Tryz.ntmps31
   go_wp2
   go_ret
   exact ⟨q1, dz⟩
  ·rw [if_neg c4] at H
   have c4b0 := decide_eq_false c4
   clear c4
   obtain rfl := Option.some.inj H
   go_enter Tryz.func31, Tryz.ntmps31
   go_wp2
   go_ret
   exact ⟨q1, dz⟩

/-! ### texts_magnitude: function 32 -/
def texts_magnitude.f (a0 : Int) : Option (ByteArray) := (strconv_FormatInt_72.f a0 10).bind fun t125 => ((strings_TrimPrefix.f t125 (⟨#[45]⟩ : ByteArray)).bind fun t126 => (some t126))
set_option maxHeartbeats 8000000 in
set_option maxRecDepth 100000 in
theorem texts_magnitude.calls (a0 : Int) (r : ByteArray) (w : World) (hE : Env w) (h : texts_magnitude.f a0 = some r) :
  Calls Tryz.prog 32 #[.int .i64 a0] w fun e w' => e = .returned (.string r) ∧ Below w.heap.size w w' := by
 have HE_ := Aside0.mk hE
 clear hE
 have HB := Aside0.mk (Below.refl w.heap.size w)
 have H : ((strconv_FormatInt_72.f a0 10).bind fun t125 => ((strings_TrimPrefix.f t125 (⟨#[45]⟩ : ByteArray)).bind fun t126 => (some t126))) = some r := h
 clear h
 replace H := Option.bind_eq_some_iff.mp H
 obtain ⟨t125, A20, H⟩ := H
 try dsimp only at H
 have A2 := Aside0.mk A20
 clear A20
 replace H := Option.bind_eq_some_iff.mp H
 obtain ⟨t126, A30, H⟩ := H
 try dsimp only at H
 have A3 := Aside0.mk A30
 clear A30
 obtain rfl := Option.some.inj H
 go_enter Tryz.func32, Tryz.ntmps32
 go_wp2_with (first | (refine gc 72 ?_; refine gl (some 4) Tryz.func72 #[.int .i64 a0, .int .i64 10] ?_; (with_reducible refine (strconv_FormatInt_72.calls a0 10 t125 _ (env_at HE_.out (bw HB)) A2.out).mono ?_); rintro e w4 ⟨rfl, hb⟩; refine ⟨_, rfl, ?_⟩; replace HB := bt_ HB hb; (try clear hb)) | (refine gc 76 ?_; refine gl (some 5) Tryz.func76 #[.string t125, .string (⟨#[45]⟩ : ByteArray)] ?_; (with_reducible refine (strings_TrimPrefix.calls t125 (⟨#[45]⟩ : ByteArray) t126 _ A3.out).mono ?_); rintro e w' ⟨rfl, ⟨nd, rfl⟩⟩; refine ⟨_, rfl, ?_⟩))
 go_ret
 exact ⟨by first | rfl | (simp [errW_none, errW_some] <;> rfl) | (simp [*, errW_none, errW_some] <;> rfl), bw HB⟩

/-! ### texts_Whole: function 8 -/
def texts_Whole.f (a0 : Int) (a1 : Int) : Option (ByteArray) := (texts_wide.f a1).bind fun t127 => (if t127 = true then ((texts_stars.f 0).bind fun t128 => (some t128)) else ((texts_sign.f (decide (a0 < 0)) a1).bind fun t129 => ((texts_magnitude.f a0).bind fun t130 => (if t129.size + t130.size ≤ 9223372036854775807 then ((texts_filled.f (t129 ++ t130) a1).bind fun bt131 => (if bt131.2 = true then (some bt131.1) else ((texts_stars.f a1).bind fun t133 => (some t133)))) else (none)))))
set_option maxHeartbeats 8000000 in
set_option maxRecDepth 100000 in
theorem texts_Whole.calls (a0 : Int) (a1 : Int) (r : ByteArray) (w : World) (hE : Env w) (h : texts_Whole.f a0 a1 = some r) :
  Calls Tryz.prog 8 #[.int .i64 a0, .int .i64 a1] w fun e w' => e = .returned (.string r) ∧ Below w.heap.size w w' := by
 have HE_ := Aside0.mk hE
 clear hE
 have HB := Aside0.mk (Below.refl w.heap.size w)
 have H : ((texts_wide.f a1).bind fun t127 => (if t127 = true then ((texts_stars.f 0).bind fun t128 => (some t128)) else ((texts_sign.f (decide (a0 < 0)) a1).bind fun t129 => ((texts_magnitude.f a0).bind fun t130 => (if t129.size + t130.size ≤ 9223372036854775807 then ((texts_filled.f (t129 ++ t130) a1).bind fun bt131 => (if bt131.2 = true then (some bt131.1) else ((texts_stars.f a1).bind fun t133 => (some t133)))) else (none)))))) = some r := h
 clear h
 replace H := Option.bind_eq_some_iff.mp H
 obtain ⟨t127, A30, H⟩ := H
 try dsimp only at H
 have A3 := Aside0.mk A30
 clear A30
 by_cases c4 : t127 = true
 ·subst c4
  rw [if_pos rfl] at H
  replace H := Option.bind_eq_some_iff.mp H
  obtain ⟨t128, A50, H⟩ := H
  try dsimp only at H
  have A5 := Aside0.mk A50
  clear A50
  obtain rfl := Option.some.inj H
  go_enter Tryz.func8, Tryz.ntmps8
  go_wp2_with (first | (refine gc 28 ?_; refine gl (some 8) Tryz.func28 #[.int .i64 a1] ?_; (with_reducible refine (texts_wide.calls a1 true _ A3.out).mono ?_); rintro e w' ⟨rfl, ⟨nd, rfl⟩⟩; refine ⟨_, rfl, ?_⟩) | (refine gc 29 ?_; refine gl (some 9) Tryz.func29 #[.int .i64 0] ?_; (with_reducible refine (texts_stars.calls 0 t128 _ A5.out).mono ?_); rintro e w6 ⟨rfl, hb⟩; refine ⟨_, rfl, ?_⟩; replace HB := bt_ HB hb; (try clear hb)))
  go_ret
  exact ⟨by first | rfl | (simp [errW_none, errW_some] <;> rfl) | (simp [*, errW_none, errW_some] <;> rfl), bw HB⟩
 ·replace c4 := Bool.eq_false_iff.mpr c4
  subst c4
  rw [if_neg (show ¬ (false = true) by decide)] at H
  replace H := Option.bind_eq_some_iff.mp H
  obtain ⟨t129, A70, H⟩ := H
  try dsimp only at H
  have A7 := Aside0.mk A70
  clear A70
  replace H := Option.bind_eq_some_iff.mp H
  obtain ⟨t130, A80, H⟩ := H
  try dsimp only at H
  have A8 := Aside0.mk A80
  clear A80
  by_cases c9 : t129.size + t130.size ≤ 9223372036854775807
  ·rw [if_pos c9] at H
   have c9b0 := eq_true c9
   have c9b1 := decide_eq_true c9
   try have c9b2 : (9223372036854775807 < t129.size + t130.size) = False := eq_false (Nat.not_lt.2 c9)
   replace H := Option.bind_eq_some_iff.mp H
   obtain ⟨⟨t131, t132⟩, A100, H⟩ := H
   try dsimp only at H
   have A10 := Aside0.mk A100
   clear A100
   by_cases c11 : t132 = true
   ·subst c11
    rw [if_pos rfl] at H
    obtain rfl := Option.some.inj H
    go_enter Tryz.func8, Tryz.ntmps8
    go_wp2_with (first | (refine gc 28 ?_; refine gl (some 8) Tryz.func28 #[.int .i64 a1] ?_; (with_reducible refine (texts_wide.calls a1 false _ A3.out).mono ?_); rintro e w' ⟨rfl, ⟨nd, rfl⟩⟩; refine ⟨_, rfl, ?_⟩) | (refine gc 31 ?_; refine gl (some 14) Tryz.func31 #[.bool (decide (a0 < 0)), .int .i64 a1] ?_; (with_reducible refine (texts_sign.calls (decide (a0 < 0)) a1 t129 _ A7.out).mono ?_); rintro e w' ⟨rfl, ⟨nd, rfl⟩⟩; refine ⟨_, rfl, ?_⟩) | (refine gc 32 ?_; refine gl (some 16) Tryz.func32 #[.int .i64 a0] ?_; (with_reducible refine (texts_magnitude.calls a0 t130 _ (env_at HE_.out (bw HB)) A8.out).mono ?_); rintro e w12 ⟨rfl, hb⟩; refine ⟨_, rfl, ?_⟩; replace HB := bt_ HB hb; (try clear hb)) | (refine gc 30 ?_; refine gl (some 19) Tryz.func30 #[.string (t129 ++ t130), .int .i64 a1] ?_; (with_reducible refine (texts_filled.calls (t129 ++ t130) a1 t131 true _ A10.out).mono ?_); rintro e w13 ⟨rfl, hb⟩; refine ⟨_, rfl, ?_⟩; replace HB := bt_ HB hb; (try clear hb)))
    go_ret
    exact ⟨by first | rfl | (simp [errW_none, errW_some] <;> rfl) | (simp [*, errW_none, errW_some] <;> rfl), bw HB⟩
   ·replace c11 := Bool.eq_false_iff.mpr c11
    subst c11
    rw [if_neg (show ¬ (false = true) by decide)] at H
    replace H := Option.bind_eq_some_iff.mp H
    obtain ⟨t133, A140, H⟩ := H
    try dsimp only at H
    have A14 := Aside0.mk A140
    clear A140
    obtain rfl := Option.some.inj H
    go_enter Tryz.func8, Tryz.ntmps8
    go_wp2_with (first | (refine gc 28 ?_; refine gl (some 8) Tryz.func28 #[.int .i64 a1] ?_; (with_reducible refine (texts_wide.calls a1 false _ A3.out).mono ?_); rintro e w' ⟨rfl, ⟨nd, rfl⟩⟩; refine ⟨_, rfl, ?_⟩) | (refine gc 31 ?_; refine gl (some 14) Tryz.func31 #[.bool (decide (a0 < 0)), .int .i64 a1] ?_; (with_reducible refine (texts_sign.calls (decide (a0 < 0)) a1 t129 _ A7.out).mono ?_); rintro e w' ⟨rfl, ⟨nd, rfl⟩⟩; refine ⟨_, rfl, ?_⟩) | (refine gc 32 ?_; refine gl (some 16) Tryz.func32 #[.int .i64 a0] ?_; (with_reducible refine (texts_magnitude.calls a0 t130 _ (env_at HE_.out (bw HB)) A8.out).mono ?_); rintro e w15 ⟨rfl, hb⟩; refine ⟨_, rfl, ?_⟩; replace HB := bt_ HB hb; (try clear hb)) | (refine gc 30 ?_; refine gl (some 19) Tryz.func30 #[.string (t129 ++ t130), .int .i64 a1] ?_; (with_reducible refine (texts_filled.calls (t129 ++ t130) a1 t131 false _ A10.out).mono ?_); rintro e w16 ⟨rfl, hb⟩; refine ⟨_, rfl, ?_⟩; replace HB := bt_ HB hb; (try clear hb)) | (refine gc 29 ?_; refine gl (some 25) Tryz.func29 #[.int .i64 a1] ?_; (with_reducible refine (texts_stars.calls a1 t133 _ A14.out).mono ?_); rintro e w17 ⟨rfl, hb⟩; refine ⟨_, rfl, ?_⟩; replace HB := bt_ HB hb; (try clear hb)))
    go_ret
    exact ⟨by first | rfl | (simp [errW_none, errW_some] <;> rfl) | (simp [*, errW_none, errW_some] <;> rfl), bw HB⟩
  ·rw [if_neg c9] at H
   exact absurd H (by simp)
end Go.Proofs.YtckbmniiecbalaaGreatDoor.PT
