-- written by a program of this session out of the kit's print (its words and its form)
import Derived.Test.YtckbmniiecbalaaGreatDoorPTgC
import Derived.Test.YtckbmniiecbalaaGreatDoorPTgSa
import Derived.Test.YtckbmniiecbalaaGreatDoorPTgTa
import Derived.Test.YtckbmniiecbalaaGreatDoorPTgTb
import Derived.Test.YtckbmniiecbalaaGreatDoorPTsq
import Derived.Test.YtckbmniiecbalaaGreatDoorPTx0
namespace Go.Proofs.YtckbmniiecbalaaGreatDoor.PT
open Go.RowKit Go.Proofs.YtckbmniiecbalaaGreatDoorW.PrintWords Go.Proofs.YtckbmniiecbalaaGreatDoorW.PrintLast Go.Proofs.YtckbmniiecbalaaGreatDoorW.PrintMore
attribute [local go_sem] max2_int min2_int max_two min_two max_three min_three max_four min_four   -- for this text's walks alone
set_option linter.unusedVariables false
set_option linter.unusedSimpArgs false

/-! ### texts_Float: function 10 -/
mutual
def texts_Float.j0 : Nat → Int → Int → Int → Bool → Int → Int → Option (ByteArray)
 | 0, _, _, _, _, _, _ => none
 | k + 1, x1, x2, x3, x32, x171000, x171001 => if x32 = true then ((texts_stars.f 0).bind fun t174 => (some t174)) else ((strings_Repeat.f (⟨#[48]⟩ : ByteArray) (wrap64 (x2 + 1))).bind fun t175 => (if x171000 = 0 then (texts_Float.j1 k x1 x2 x3 t175 0 x171000 x171001) else ((texts_magnitude.f x171000).bind fun t176 => ((texts_scaled.f x171000 (wrap64 (x171001 - (wrap64 ((wrap64 (x171001 + (t176.size : Int))) - 1)))) x2).bind fun t177 => (if (t177.size : Int) > (wrap64 (x2 + 1)) then (if 0 ≤ (wrap64 (x2 + 1)) then (if (wrap64 (x2 + 1)) ≤ (t177.size : Int) then (texts_Float.j1 k x1 x2 x3 (t177.extract 0 ((wrap64 (x2 + 1)) : Int).toNat) (wrap64 ((wrap64 ((wrap64 (x171001 + (t176.size : Int))) - 1)) + 1)) x171000 x171001) else (none)) else (none)) else (texts_Float.j1 k x1 x2 x3 t177 (wrap64 ((wrap64 (x171001 + (t176.size : Int))) - 1)) x171000 x171001))))))
def texts_Float.j1 : Nat → Int → Int → Int → ByteArray → Int → Int → Int → Option (ByteArray)
 | 0, _, _, _, _, _, _, _ => none
 | k + 1, x1, x2, x3, x9, x10, x171000, x171001 => (texts_sign.f (decide (x171000 < 0)) x1).bind fun t178 => (if 0 ≤ 1 then (if 1 ≤ (x9.size : Int) then (if t178.size + (x9.extract 0 1).size ≤ 9223372036854775807 then (if x2 > 0 then (if 1 + (x9.extract 1 x9.size).size ≤ 9223372036854775807 then (if (t178 ++ (x9.extract 0 1)).size + ((⟨#[46]⟩ : ByteArray) ++ (x9.extract 1 x9.size)).size ≤ 9223372036854775807 then (texts_Float.j2 k x1 x3 x10 ((t178 ++ (x9.extract 0 1)) ++ ((⟨#[46]⟩ : ByteArray) ++ (x9.extract 1 x9.size)))) else (none)) else (none)) else (texts_Float.j2 k x1 x3 x10 (t178 ++ (x9.extract 0 1)))) else (none)) else (none)) else (none))
def texts_Float.j2 : Nat → Int → Int → Int → ByteArray → Option (ByteArray)
 | 0, _, _, _, _ => none
 | k + 1, x1, x3, x10, x11 => (texts_Whole.f x10 x3).bind fun t179 => (if x11.size + 1 ≤ 9223372036854775807 then (if (x11 ++ (⟨#[101]⟩ : ByteArray)).size + t179.size ≤ 9223372036854775807 then ((texts_filled.f ((x11 ++ (⟨#[101]⟩ : ByteArray)) ++ t179) x1).bind fun bt180 => (if bt180.2 = true then ((strings_Contains.f t179 (⟨#[42]⟩ : ByteArray)).bind fun t182 => (if t182 = true then ((texts_stars.f x1).bind fun t183 => (some t183)) else (some bt180.1))) else ((texts_stars.f x1).bind fun t184 => (some t184)))) else (none)) else (none))
end
def texts_Float.f (k : Nat) (a0_0 : Int) (a0_1 : Int) (a1 : Int) (a2 : Int) (a3 : Int) : Option (ByteArray) := if a2 < 0 then (texts_Float.j0 k a1 a2 a3 true a0_0 a0_1) else (if a2 > 500 then (texts_Float.j0 k a1 a2 a3 true a0_0 a0_1) else ((texts_wide.f a1).bind fun t171 => (if t171 = true then (texts_Float.j0 k a1 a2 a3 true a0_0 a0_1) else ((texts_wide.f a3).bind fun t172 => (if t172 = true then (texts_Float.j0 k a1 a2 a3 true a0_0 a0_1) else ((texts_valid.f k a0_0 a0_1).bind fun t173 => (texts_Float.j0 k a1 a2 a3 (!t173) a0_0 a0_1)))))))
theorem texts_Float.mono_l : ∀ k, (∀ y0 y1 y2 y3 y4 y5, LeO (texts_Float.j0 k y0 y1 y2 y3 y4 y5) (texts_Float.j0 (k + 1) y0 y1 y2 y3 y4 y5)) ∧ (∀ y0 y1 y2 y3 y4 y5 y6, LeO (texts_Float.j1 k y0 y1 y2 y3 y4 y5 y6) (texts_Float.j1 (k + 1) y0 y1 y2 y3 y4 y5 y6)) ∧ (∀ y0 y1 y2 y3, LeO (texts_Float.j2 k y0 y1 y2 y3) (texts_Float.j2 (k + 1) y0 y1 y2 y3))
 | 0 => ⟨fun _ _ _ _ _ _ r h => by simp [texts_Float.j0] at h, fun _ _ _ _ _ _ _ r h => by simp [texts_Float.j1] at h, fun _ _ _ _ r h => by simp [texts_Float.j2] at h⟩
 | k + 1 => by
  obtain ⟨ih0, ih1, ih2⟩ := texts_Float.mono_l k
  refine ⟨?_, ?_, ?_⟩
  ·intro y0 y1 y2 y3 y4 y5
   unfold texts_Float.j0
   repeat' first
   | (with_reducible exact ih0 _ _ _ _ _ _)
   | (with_reducible exact ih1 _ _ _ _ _ _ _)
   | (with_reducible exact ih2 _ _ _ _)
   | (with_reducible exact texts_valid.mono _ _ _)
   | (with_reducible exact LeO.refl _)
   | (with_reducible exact LeO.none _)
   | (with_reducible refine LeO.ite ?_ ?_)
   | (with_reducible refine LeO.bind ?_ (fun _ => ?_))
   | exact ih0 _ _ _ _ _ _
   | exact ih1 _ _ _ _ _ _ _
   | exact ih2 _ _ _ _
   | exact texts_valid.mono _ _ _
   | exact LeO.none _
   | refine LeO.ite ?_ ?_
   | refine LeO.bind ?_ (fun _ => ?_)
  ·intro y0 y1 y2 y3 y4 y5 y6
   unfold texts_Float.j1
   repeat' first
   | (with_reducible exact ih0 _ _ _ _ _ _)
   | (with_reducible exact ih1 _ _ _ _ _ _ _)
   | (with_reducible exact ih2 _ _ _ _)
   | (with_reducible exact texts_valid.mono _ _ _)
   | (with_reducible exact LeO.refl _)
   | (with_reducible exact LeO.none _)
   | (with_reducible refine LeO.ite ?_ ?_)
   | (with_reducible refine LeO.bind ?_ (fun _ => ?_))
   | exact ih0 _ _ _ _ _ _
   | exact ih1 _ _ _ _ _ _ _
   | exact ih2 _ _ _ _
   | exact texts_valid.mono _ _ _
   | exact LeO.none _
   | refine LeO.ite ?_ ?_
   | refine LeO.bind ?_ (fun _ => ?_)
  ·intro y0 y1 y2 y3
   unfold texts_Float.j2
   repeat' first
   | (with_reducible exact ih0 _ _ _ _ _ _)
   | (with_reducible exact ih1 _ _ _ _ _ _ _)
   | (with_reducible exact ih2 _ _ _ _)
   | (with_reducible exact texts_valid.mono _ _ _)
   | (with_reducible exact LeO.refl _)
   | (with_reducible exact LeO.none _)
   | (with_reducible refine LeO.ite ?_ ?_)
   | (with_reducible refine LeO.bind ?_ (fun _ => ?_))
   | exact ih0 _ _ _ _ _ _
   | exact ih1 _ _ _ _ _ _ _
   | exact ih2 _ _ _ _
   | exact texts_valid.mono _ _ _
   | exact LeO.none _
   | refine LeO.ite ?_ ?_
   | refine LeO.bind ?_ (fun _ => ?_)
theorem texts_Float.mono : ∀ a0 a1 a2 a3 a4 k, LeO (texts_Float.f k a0 a1 a2 a3 a4) (texts_Float.f (k + 1) a0 a1 a2 a3 a4) := by
 intro a0 a1 a2 a3 a4 k
 obtain ⟨ih0, ih1, ih2⟩ := texts_Float.mono_l k
 unfold texts_Float.f
 repeat' first
   | (with_reducible exact ih0 _ _ _ _ _ _)
   | (with_reducible exact ih1 _ _ _ _ _ _ _)
   | (with_reducible exact ih2 _ _ _ _)
   | (with_reducible exact texts_valid.mono _ _ _)
   | (with_reducible exact LeO.refl _)
   | (with_reducible exact LeO.none _)
   | (with_reducible refine LeO.ite ?_ ?_)
   | (with_reducible refine LeO.bind ?_ (fun _ => ?_))
   | exact ih0 _ _ _ _ _ _
   | exact ih1 _ _ _ _ _ _ _
   | exact ih2 _ _ _ _
   | exact texts_valid.mono _ _ _
   | exact LeO.none _
   | refine LeO.ite ?_ ?_
   | refine LeO.bind ?_ (fun _ => ?_)
def texts_Float.T5 : Bool × List (List Nat × List Nat) := (true, [([], []), ([0], [0]), ([], []), ([2], [2]), ([3], [3]), ([4], [4]), ([1, 5], [1, 5]), ([6], [6]), ([7, 4, 0, 1, 2, 3, 4, 5, 6, 7], [7])])
def texts_Float.B5 : List Nat := [0, 1, 0, 4, 12, 28, 63, 127, 255]
theorem texts_Float.tab5 : rtab .any (opsOf Tryz.f10 5) = texts_Float.T5 := by kernel_rfl
theorem texts_Float.bits5 : waitsOk texts_Float.T5.2 texts_Float.B5 = true := by kernel_rfl
def texts_Float.T9 : Bool × List (List Nat × List Nat) := (true, [([], []), ([0], [0]), ([1], [1]), ([], []), ([2, 3], [2, 3]), ([], []), ([5], [5]), ([4, 6], [4, 6]), ([7, 4, 0, 1, 2, 3, 4, 5, 6, 7], [7])])
def texts_Float.B9 : List Nat := [0, 1, 3, 0, 15, 0, 32, 127, 255]
theorem texts_Float.tab9 : rtab .any (opsOf Tryz.f10 9) = texts_Float.T9 := by kernel_rfl
theorem texts_Float.bits9 : waitsOk texts_Float.T9.2 texts_Float.B9 = true := by kernel_rfl
set_option maxHeartbeats 8000000 in
set_option maxRecDepth 100000 in
theorem texts_Float.calls (k : Nat) (a0_0 : Int) (a0_1 : Int) (a1 : Int) (a2 : Int) (a3 : Int) (r : ByteArray) (w : World) (hE : Env w) (h : texts_Float.f k a0_0 a0_1 a1 a2 a3 = some r) :
  Calls Tryz.prog 10 #[.agg #[.int .i64 a0_0, .int .i64 a0_1], .int .i64 a1, .int .i64 a2, .int .i64 a3] w fun e w' => e = .returned (.string r) ∧ Below w.heap.size w w' := by
 have HE_ := Aside0.mk hE
 clear hE
 have hu23 := Tryz.underlying23
 have HB := Aside0.mk (Below.refl w.heap.size w)
 have H : (if a2 < 0 then (texts_Float.j0 k a1 a2 a3 true a0_0 a0_1) else (if a2 > 500 then (texts_Float.j0 k a1 a2 a3 true a0_0 a0_1) else ((texts_wide.f a1).bind fun t171 => (if t171 = true then (texts_Float.j0 k a1 a2 a3 true a0_0 a0_1) else ((texts_wide.f a3).bind fun t172 => (if t172 = true then (texts_Float.j0 k a1 a2 a3 true a0_0 a0_1) else ((texts_valid.f k a0_0 a0_1).bind fun t173 => (texts_Float.j0 k a1 a2 a3 (!t173) a0_0 a0_1)))))))) = some r := h
 clear h
 have HC5 := Aside0.mk H
 clear H
 go_enter Tryz.func10, Tryz.ntmps10
 go_upto_region 1 with (first | ((with_reducible refine gate_dst (N := 4) rfl ?_); refine box_event ?hg (N := 4) ?hd (cs := #[.int .i64 a0_0, .int .i64 a0_1]) (t := 23) ?hr ?_; (case hd => rfl); (case hg => rfl); (case hr => first | (go_simp; done) | (go_simp; rfl)); intro gb170 hg w6 hbox hb; have BK170 := Aside0.mk (hbox); have GW170 := Aside0.mk (bs HB hg : w.heap.size ≤ gb170); replace HB := Aside0.mk (below_step (bw HB) hb); clear hb hbox hg))
 (try simp only [sx])
 go_cut [32] (fun v32 wc => ∃ (kq : Nat) (x32_4 : Bool), v32 = .bool x32_4 ∧ Aside0 (texts_Float.j0 kq a1 a2 a3 x32_4 a0_0 a0_1 = some r) ∧ Aside0 (kq ≤ k) ∧ Aside0 (wc.heap[gb170]? = some (.cells #[.int .i64 a0_0, .int .i64 a0_1] 23 (0, 0))) ∧ Aside0 (Below w.heap.size w wc))
 case first =>
  have H := HC5.out
  clear HC5
  by_cases c7 : a2 < 0
  ·rw [if_pos c7] at H
   have c7b0 : decide (a2 < 0) = true := decide_eq_true c7
   clear c7
   (first | rw [c7b0] | (simp only [i64_w, i32_w]; rw [c7b0]) | skip)
   have H' := Aside0.mk H
   clear H
   go_wp2
   go_meet
   case rel => exact ⟨_, (true), (by first | rfl | (simp; done) | (simp [*]; done)), H', ⟨by first | omega | exact Nat.le_refl _⟩, ⟨by (with_reducible repeat (first | refine blk_drewN ?_ _ | refine blk_drew ?_ | refine blk_alloc ?_ _)); exact BK170.out⟩, ⟨bw HB⟩⟩
  ·rw [if_neg c7] at H
   have c7b0 : decide (a2 < 0) = false := decide_eq_false c7
   clear c7
   (first | rw [c7b0] | (simp only [i64_w, i32_w]; rw [c7b0]) | skip)
   by_cases c8 : a2 > 500
   ·rw [if_pos c8] at H
    have c8b0 : decide (500 < a2) = true := decide_eq_true c8
    clear c8
    have H' := Aside0.mk H
    clear H
    go_wp2
    go_meet
    case rel => exact ⟨_, (true), (by first | rfl | (simp; done) | (simp [*]; done)), H', ⟨by first | omega | exact Nat.le_refl _⟩, ⟨by (with_reducible repeat (first | refine blk_drewN ?_ _ | refine blk_drew ?_ | refine blk_alloc ?_ _)); exact BK170.out⟩, ⟨bw HB⟩⟩
   ·rw [if_neg c8] at H
    have c8b0 : decide (500 < a2) = false := decide_eq_false c8
    clear c8
    replace H := Option.bind_eq_some_iff.mp H
    obtain ⟨t171, A90, H⟩ := H
    replace H : (if t171 = true then (texts_Float.j0 k a1 a2 a3 true a0_0 a0_1) else ((texts_wide.f a3).bind fun t172 => (if t172 = true then (texts_Float.j0 k a1 a2 a3 true a0_0 a0_1) else ((texts_valid.f k a0_0 a0_1).bind fun t173 => (texts_Float.j0 k a1 a2 a3 (!t173) a0_0 a0_1))))) = some r := H
    have A9 := Aside0.mk A90
    clear A90
    by_cases c10 : t171 = true
    ·subst c10
     have H1 : (texts_Float.j0 k a1 a2 a3 true a0_0 a0_1) = some r := by rw [if_pos rfl] at H; exact H
     clear H
     have H := H1
     clear H1
     have H' := Aside0.mk H
     clear H
     go_wp2_with (first | (go_at_call 28; (with_reducible refine (texts_wide.calls a1 true _ A9.out).mono ?_); rintro e w' ⟨rfl, ⟨nd, rfl⟩⟩))
     go_meet
     case rel => exact ⟨_, (true), (by first | rfl | (simp; done) | (simp [*]; done)), H', ⟨by first | omega | exact Nat.le_refl _⟩, ⟨by (with_reducible repeat (first | refine blk_drewN ?_ _ | refine blk_drew ?_ | refine blk_alloc ?_ _)); exact BK170.out⟩, ⟨bw HB⟩⟩
    ·replace c10 := Bool.eq_false_iff.mpr c10
     subst c10
     have H1 : ((texts_wide.f a3).bind fun t172 => (if t172 = true then (texts_Float.j0 k a1 a2 a3 true a0_0 a0_1) else ((texts_valid.f k a0_0 a0_1).bind fun t173 => (texts_Float.j0 k a1 a2 a3 (!t173) a0_0 a0_1)))) = some r := by rw [if_neg (show ¬ (false = true) by decide)] at H; exact H
     clear H
     have H := H1
     clear H1
     replace H := Option.bind_eq_some_iff.mp H
     obtain ⟨t172, A110, H⟩ := H
     replace H : (if t172 = true then (texts_Float.j0 k a1 a2 a3 true a0_0 a0_1) else ((texts_valid.f k a0_0 a0_1).bind fun t173 => (texts_Float.j0 k a1 a2 a3 (!t173) a0_0 a0_1))) = some r := H
     have A11 := Aside0.mk A110
     clear A110
     by_cases c12 : t172 = true
     ·subst c12
      have H1 : (texts_Float.j0 k a1 a2 a3 true a0_0 a0_1) = some r := by rw [if_pos rfl] at H; exact H
      clear H
      have H := H1
      clear H1
      have H' := Aside0.mk H
      clear H
      go_wp2_with (first | (go_at_call 28; (with_reducible refine (texts_wide.calls a1 false _ A9.out).mono ?_); rintro e w' ⟨rfl, ⟨nd, rfl⟩⟩) | (go_at_call 28; (with_reducible refine (texts_wide.calls a3 true _ A11.out).mono ?_); rintro e w' ⟨rfl, ⟨nd, rfl⟩⟩))
      go_meet
      case rel => exact ⟨_, (true), (by first | rfl | (simp; done) | (simp [*]; done)), H', ⟨by first | omega | exact Nat.le_refl _⟩, ⟨by (with_reducible repeat (first | refine blk_drewN ?_ _ | refine blk_drew ?_ | refine blk_alloc ?_ _)); exact BK170.out⟩, ⟨bw HB⟩⟩
     ·replace c12 := Bool.eq_false_iff.mpr c12
      subst c12
      have H1 : ((texts_valid.f k a0_0 a0_1).bind fun t173 => (texts_Float.j0 k a1 a2 a3 (!t173) a0_0 a0_1)) = some r := by rw [if_neg (show ¬ (false = true) by decide)] at H; exact H
      clear H
      have H := H1
      clear H1
      replace H := Option.bind_eq_some_iff.mp H
      obtain ⟨t173, A130, H⟩ := H
      replace H : (texts_Float.j0 k a1 a2 a3 (!t173) a0_0 a0_1) = some r := H
      have A13 := Aside0.mk A130
      clear A130
      have H' := Aside0.mk H
      clear H
      go_wp2_with (first | (go_at_call 28; (with_reducible refine (texts_wide.calls a1 false _ A9.out).mono ?_); rintro e w' ⟨rfl, ⟨nd, rfl⟩⟩) | (go_at_call 28; (with_reducible refine (texts_wide.calls a3 false _ A11.out).mono ?_); rintro e w' ⟨rfl, ⟨nd, rfl⟩⟩; obtain ⟨hcz14_0, hcz14_1, hfz14_0, hfz14_1⟩ := cf2 BK170) | (go_at_call 33; (with_reducible refine (texts_valid.calls k a0_0 a0_1 t173 _ A13.out).mono ?_); rintro e w15 ⟨rfl, hb⟩; replace BK170 := Aside0.mk (bb BK170 hb); replace HB := Aside0.mk (below_step (bw HB) hb); (try clear hb); (try clear hb2); (try clear hk); (try clear hi)))
      go_meet
      case rel => exact ⟨_, (!t173), (by first | rfl | (simp; done) | (simp [*]; done)), H', ⟨by first | omega | exact Nat.le_refl _⟩, ⟨by (with_reducible repeat (first | refine blk_drewN ?_ _ | refine blk_drew ?_ | refine blk_alloc ?_ _)); exact BK170.out⟩, ⟨bw HB⟩⟩
 case rest =>
  clear HC5
  try clear c1
  try clear p2
  try clear c7
  try clear c7b0
  try clear c8
  try clear c8b0
  try clear c10
  try clear c12
  try clear hcz14_0
  try clear hcz14_1
  try clear hfz14_0
  try clear hfz14_1
  obtain ⟨kq, x32_4, rfl, HA, HJ4, BK170, HB⟩ := hcut
  cases kq with
  | zero => exact absurd HA.out (by simp [texts_Float.j0])
  | succ kj4 =>
   have H := HA.out
   clear HA
   simp only [texts_Float.j0] at H
   by_cases c16 : x32_4 = true
   ·subst c16
    have H1 : ((texts_stars.f 0).bind fun t174 => (some t174)) = some r := by rw [if_pos rfl] at H; exact H
    clear H
    have H := H1
    clear H1
    replace H := Option.bind_eq_some_iff.mp H
    obtain ⟨t174, A170, H⟩ := H
    replace H : (some t174) = some r := H
    have A17 := Aside0.mk A170
    clear A170
    obtain rfl := Option.some.inj H
    go_wp2_with (first | ((with_reducible refine gate_callee (f := 29) rfl ?_); refine goesL_ (some 33) rfl rfl Tryz.func29 (by kernel_rfl) rfl #[.int .i64 0] rfl (by (try simp only [List.map_toArray, List.map_cons, List.map_nil]); first | done | rfl | (simp only [List.length_drop, List.length_take]; rfl)) ?_; (with_reducible refine (texts_stars.calls 0 t174 _ A17.out).mono ?_); rintro e w18 ⟨rfl, hb⟩; refine ⟨_, rfl, ?_⟩; replace BK170 := Aside0.mk (bb BK170 hb); replace HB := Aside0.mk (below_step (bw HB) hb); (try clear hb); (try clear hb2); (try clear hk); (try clear hi)) | (go_at_call 29; (with_reducible refine (texts_stars.calls 0 t174 _ A17.out).mono ?_); rintro e w18 ⟨rfl, hb⟩; replace BK170 := Aside0.mk (bb BK170 hb); replace HB := Aside0.mk (below_step (bw HB) hb); (try clear hb); (try clear hb2); (try clear hk); (try clear hi)))
    go_ret
    exact ⟨by first | rfl | (simp [errW_none, errW_some] <;> rfl) | (simp [*, errW_none, errW_some] <;> rfl), bw HB⟩
   ·replace c16 := Bool.eq_false_iff.mpr c16
    subst c16
    have H1 : ((strings_Repeat.f (⟨#[48]⟩ : ByteArray) (wrap64 (a2 + 1))).bind fun t175 => (if a0_0 = 0 then (texts_Float.j1 kj4 a1 a2 a3 t175 0 a0_0 a0_1) else ((texts_magnitude.f a0_0).bind fun t176 => ((texts_scaled.f a0_0 (wrap64 (a0_1 - (wrap64 ((wrap64 (a0_1 + (t176.size : Int))) - 1)))) a2).bind fun t177 => (if (t177.size : Int) > (wrap64 (a2 + 1)) then (if 0 ≤ (wrap64 (a2 + 1)) then (if (wrap64 (a2 + 1)) ≤ (t177.size : Int) then (texts_Float.j1 kj4 a1 a2 a3 (t177.extract 0 ((wrap64 (a2 + 1)) : Int).toNat) (wrap64 ((wrap64 ((wrap64 (a0_1 + (t176.size : Int))) - 1)) + 1)) a0_0 a0_1) else (none)) else (none)) else (texts_Float.j1 kj4 a1 a2 a3 t177 (wrap64 ((wrap64 (a0_1 + (t176.size : Int))) - 1)) a0_0 a0_1)))))) = some r := by rw [if_neg (show ¬ (false = true) by decide)] at H; exact H
    clear H
    have H := H1
    clear H1
    replace H := Option.bind_eq_some_iff.mp H
    obtain ⟨t175, A190, H⟩ := H
    replace H : (if a0_0 = 0 then (texts_Float.j1 kj4 a1 a2 a3 t175 0 a0_0 a0_1) else ((texts_magnitude.f a0_0).bind fun t176 => ((texts_scaled.f a0_0 (wrap64 (a0_1 - (wrap64 ((wrap64 (a0_1 + (t176.size : Int))) - 1)))) a2).bind fun t177 => (if (t177.size : Int) > (wrap64 (a2 + 1)) then (if 0 ≤ (wrap64 (a2 + 1)) then (if (wrap64 (a2 + 1)) ≤ (t177.size : Int) then (texts_Float.j1 kj4 a1 a2 a3 (t177.extract 0 ((wrap64 (a2 + 1)) : Int).toNat) (wrap64 ((wrap64 ((wrap64 (a0_1 + (t176.size : Int))) - 1)) + 1)) a0_0 a0_1) else (none)) else (none)) else (texts_Float.j1 kj4 a1 a2 a3 t177 (wrap64 ((wrap64 (a0_1 + (t176.size : Int))) - 1)) a0_0 a0_1))))) = some r := H
    have A19 := Aside0.mk A190
    clear A190
    have HC20 := Aside0.mk H
    clear H
    go_upto_if 39 with (first | ((with_reducible refine gate_callee (f := 36) rfl ?_); refine goesL_ (some 36) rfl rfl Tryz.func36 (by kernel_rfl) rfl #[.string (⟨#[48]⟩ : ByteArray), .int .i64 (wrap64 (a2 + 1))] rfl (by (try simp only [List.map_toArray, List.map_cons, List.map_nil]); first | done | rfl | (simp only [List.length_drop, List.length_take]; rfl)) ?_; (with_reducible refine (strings_Repeat.calls (⟨#[48]⟩ : ByteArray) (wrap64 (a2 + 1)) t175 _ A19.out).mono ?_); rintro e w21 ⟨rfl, hb⟩; refine ⟨_, rfl, ?_⟩; replace BK170 := Aside0.mk (bb BK170 hb); replace HB := Aside0.mk (below_step (bw HB) hb); (try clear hb); (try clear hb2); (try clear hk); (try clear hi); obtain ⟨hcz22_0, hcz22_1, hfz22_0, hfz22_1⟩ := cf2 BK170))
    (try simp only [sx])
    go_cut [9, 10] (fun v9 v10 wc => ∃ (kq : Nat) (x9_19 : ByteArray) (x10_19 : Int), v9 = .string x9_19 ∧ v10 = .int .i64 x10_19 ∧ Aside0 (texts_Float.j1 kq a1 a2 a3 x9_19 x10_19 a0_0 a0_1 = some r) ∧ Aside0 (kq ≤ kj4) ∧ Aside0 (wc.heap[gb170]? = some (.cells #[.int .i64 a0_0, .int .i64 a0_1] 23 (0, 0))) ∧ Aside0 (Below w.heap.size w wc))
    case first =>
     have H := HC20.out
     clear HC20
     by_cases c23 : a0_0 = 0
     ·rw [if_pos c23] at H
      have c23b0 : (a0_0 == 0) = true := beq_iff_eq.mpr c23
      have c23b1 : (a0_0 != 0) = false := bne_eq_false_iff_eq.mpr c23
      clear c23
      (first | rw [c23b0] | (simp only [i64_w, i32_w]; rw [c23b0]) | skip)
      have H' := Aside0.mk H
      clear H
      go_wp2
      go_meet
      case rel => exact ⟨_, (t175), (0), (by first | rfl | (simp; done) | (simp [*]; done)), (by first | rfl | (simp; done) | (simp [*]; done)), H', ⟨by have := HJ4.out; first | omega | exact Nat.le_refl _⟩, ⟨by (with_reducible repeat (first | refine blk_drewN ?_ _ | refine blk_drew ?_ | refine blk_alloc ?_ _)); exact BK170.out⟩, ⟨bw HB⟩⟩
     ·rw [if_neg c23] at H
      have c23b0 : (a0_0 == 0) = false := beq_eq_false_iff_ne.mpr c23
      have c23b1 : (a0_0 != 0) = true := bne_iff_ne.mpr c23
      (first | rw [c23b0] | (simp only [i64_w, i32_w]; rw [c23b0]) | skip)
      replace H := Option.bind_eq_some_iff.mp H
      obtain ⟨t176, A240, H⟩ := H
      replace H : ((texts_scaled.f a0_0 (wrap64 (a0_1 - (wrap64 ((wrap64 (a0_1 + (t176.size : Int))) - 1)))) a2).bind fun t177 => (if (t177.size : Int) > (wrap64 (a2 + 1)) then (if 0 ≤ (wrap64 (a2 + 1)) then (if (wrap64 (a2 + 1)) ≤ (t177.size : Int) then (texts_Float.j1 kj4 a1 a2 a3 (t177.extract 0 ((wrap64 (a2 + 1)) : Int).toNat) (wrap64 ((wrap64 ((wrap64 (a0_1 + (t176.size : Int))) - 1)) + 1)) a0_0 a0_1) else (none)) else (none)) else (texts_Float.j1 kj4 a1 a2 a3 t177 (wrap64 ((wrap64 (a0_1 + (t176.size : Int))) - 1)) a0_0 a0_1))) = some r := H
      have A24 := Aside0.mk A240
      clear A240
      replace H := Option.bind_eq_some_iff.mp H
      obtain ⟨t177, A250, H⟩ := H
      replace H : (if (t177.size : Int) > (wrap64 (a2 + 1)) then (if 0 ≤ (wrap64 (a2 + 1)) then (if (wrap64 (a2 + 1)) ≤ (t177.size : Int) then (texts_Float.j1 kj4 a1 a2 a3 (t177.extract 0 ((wrap64 (a2 + 1)) : Int).toNat) (wrap64 ((wrap64 ((wrap64 (a0_1 + (t176.size : Int))) - 1)) + 1)) a0_0 a0_1) else (none)) else (none)) else (texts_Float.j1 kj4 a1 a2 a3 t177 (wrap64 ((wrap64 (a0_1 + (t176.size : Int))) - 1)) a0_0 a0_1)) = some r := H
      have A25 := Aside0.mk A250
      clear A250
      by_cases c26 : (t177.size : Int) > (wrap64 (a2 + 1))
      ·rw [if_pos c26] at H
       have c26b0 : decide ((wrap64 (a2 + 1)) < (t177.size : Int)) = true := decide_eq_true c26
       clear c26
       obtain ⟨ji27, hji27⟩ : ∃ j_ : Int, (wrap64 (a2 + 1)) = j_ := ⟨_, rfl⟩
       replace H : (if 0 ≤ (ji27) then (if (ji27) ≤ (t177.size : Int) then (texts_Float.j1 kj4 a1 a2 a3 (t177.extract 0 ((ji27) : Int).toNat) (wrap64 ((wrap64 ((wrap64 (a0_1 + (t176.size : Int))) - 1)) + 1)) a0_0 a0_1) else (none)) else (none)) = some r := by first | (rw [hji27] at H; exact H) | (simp only [hji27] at H ⊢; exact H)
       (try rw [hji27] at c26b0)
       (try rw [hji27] at A24)
       (try rw [hji27] at A25)
       have hji27w : (IntKind.i64.wrap (a2 + 1)) = ji27 := (i64_w _).trans hji27
       by_cases c28 : 0 ≤ (ji27)
       ·rw [if_pos c28] at H
        have c28b0 := eq_true c28
        have c28b1 : decide (0 ≤ (ji27)) = true := decide_eq_true c28
        clear c28
        by_cases c29 : (ji27) ≤ (t177.size : Int)
        ·rw [if_pos c29] at H
         have c29b0 := eq_true c29
         have c29b1 : decide ((ji27) ≤ (t177.size : Int)) = true := decide_eq_true c29
         clear c29
         have H' := Aside0.mk H
         clear H
         try go_wp2
         replace BK170 := Aside0.mk (blk_drew BK170.out)
         replace HB := Aside0.mk (below_drew1 HB.out)
         refine start_ (n := 9) (S := fun w' => w'.cell? ⟨gb170, 0, none⟩ = some (.int .i64 a0_0) ∧ w'.cell? ⟨gb170, 1, none⟩ = some (.int .i64 a0_1)) (ds := []) #[false, false, false, false, false, false, false, false, false] (by kernel_rfl) rfl rfl ⟨(blk_cell BK170.out 0).trans rfl, (blk_cell BK170.out 1).trans rfl⟩ (fun hHeld => ?_); refine with_tabW texts_Float.tab5 texts_Float.bits5 (fun HT_ HW_ => ?_)
         generalize w21.drew = w30 at BK170 HB hHeld ⊢
         refine pu 0 40 (bl 9 1) HT_ ?_
         refine pu 2 42 (bl 9 5) HT_ ?_
         refine ta 1 41 (bl 9 7) HT_ HW_ hHeld ?_
         refine ta 3 43 (bl 9 15) HT_ HW_ hHeld ?_
         refine one_ (i := 4) (N := some 44) #[true, true, true, true, true, false, false, false, false] rfl rfl (one_of HT_.out (by kernel_rfl)) (by decide) (fun K hK => ?_)
         refine goes_ Tryz.func32 (by kernel_rfl) rfl #[.int .i64 a0_0] (by rfl) rfl rfl (by (try simp only [List.map_toArray, List.map_cons, List.map_nil]); first | done | rfl | (simp only [List.length_drop, List.length_take]; rfl)) ?_
         with_reducible refine (texts_magnitude.calls a0_0 t176 _ (env_at HE_.out (bw HB)) A24.out).mono ?_
         rintro e w31 ⟨rfl, hb⟩
         refine ⟨_, rfl, ?_⟩
         replace BK170 := Aside0.mk (bb BK170 hb)
         replace HB := Aside0.mk (below_step (bw HB) hb)
         (try clear hb)
         (try clear hb2)
         (try clear hk)
         (try clear hi)
         refine hK.out _ _ ⟨(blk_cell BK170.out 0).trans rfl, (blk_cell BK170.out 1).trans rfl⟩ (fun hHeld => ?_)
         clear hK K
         refine norm_ (a' := ?_) ?_ ?_
         rotate_left
         ·show Act.put _ (some 44) _ = _
          simp only [sx, i64_w, i32_w]
          rfl
         refine pu 5 45 (bl 9 63) HT_ ?_
         refine pu 6 46 (bl 9 127) HT_ ?_
         refine pu 7 47 (bl 9 255) HT_ ?_
         refine pu 8 10 (bl 9 511) HT_ ?_
         refine done_ (done_of HT_.out (by kernel_rfl)) ?_
         obtain ⟨hcz32_0, hcz32_1, hfz32_0, hfz32_1⟩ := cf2 BK170
         try go_wp2_with (first | ((with_reducible refine gate_callee (f := 37) rfl ?_); refine goesL_ (some 56) rfl rfl Tryz.func37 (by kernel_rfl) rfl #[.agg #[.int .i64 a0_0, .int .i64 (wrap64 (a0_1 - (wrap64 ((wrap64 (a0_1 + (t176.size : Int))) - 1))))], .int .i64 a2] rfl (by (try simp only [List.map_toArray, List.map_cons, List.map_nil]); first | done | rfl | (simp only [List.length_drop, List.length_take]; rfl)) ?_; (with_reducible refine (texts_scaled.calls a0_0 (wrap64 (a0_1 - (wrap64 ((wrap64 (a0_1 + (t176.size : Int))) - 1)))) a2 t177 _ (env_at HE_.out (bw HB)) A25.out).mono ?_); rintro e w33 ⟨rfl, hb⟩; refine ⟨_, rfl, ?_⟩; replace BK170 := Aside0.mk (bb BK170 hb); replace HB := Aside0.mk (below_step (bw HB) hb); (try clear hb); (try clear hb2); (try clear hk); (try clear hi)) | (go_at_call 37; (with_reducible refine (texts_scaled.calls a0_0 (wrap64 (a0_1 - (wrap64 ((wrap64 (a0_1 + (t176.size : Int))) - 1)))) a2 t177 _ (env_at HE_.out (bw HB)) A25.out).mono ?_); rintro e w33 ⟨rfl, hb⟩; replace BK170 := Aside0.mk (bb BK170 hb); replace HB := Aside0.mk (below_step (bw HB) hb); (try clear hb); (try clear hb2); (try clear hk); (try clear hi)))
         go_meet
         case rel => exact ⟨_, (t177.extract 0 ((ji27) : Int).toNat), (wrap64 ((wrap64 ((wrap64 (a0_1 + (t176.size : Int))) - 1)) + 1)), (by first | rfl | (simp; done) | (simp only [← hji27] <;> (first | rfl | simp)) | (simp [*]; done)), (by first | rfl | (simp; done) | (simp [*]; done)), H', ⟨by have := HJ4.out; first | omega | exact Nat.le_refl _⟩, ⟨by (with_reducible repeat (first | refine blk_drewN ?_ _ | refine blk_drew ?_ | refine blk_alloc ?_ _)); exact BK170.out⟩, ⟨bw HB⟩⟩
        ·rw [if_neg c29] at H
         exact absurd H (by simp)
       ·rw [if_neg c28] at H
        exact absurd H (by simp)
      ·rw [if_neg c26] at H
       have c26b0 : decide ((wrap64 (a2 + 1)) < (t177.size : Int)) = false := decide_eq_false c26
       clear c26
       have H' := Aside0.mk H
       clear H
       try go_wp2
       replace BK170 := Aside0.mk (blk_drew BK170.out)
       replace HB := Aside0.mk (below_drew1 HB.out)
       refine start_ (n := 9) (S := fun w' => w'.cell? ⟨gb170, 0, none⟩ = some (.int .i64 a0_0) ∧ w'.cell? ⟨gb170, 1, none⟩ = some (.int .i64 a0_1)) (ds := []) #[false, false, false, false, false, false, false, false, false] (by kernel_rfl) rfl rfl ⟨(blk_cell BK170.out 0).trans rfl, (blk_cell BK170.out 1).trans rfl⟩ (fun hHeld => ?_); refine with_tabW texts_Float.tab5 texts_Float.bits5 (fun HT_ HW_ => ?_)
       generalize w21.drew = w34 at BK170 HB hHeld ⊢
       refine pu 0 40 (bl 9 1) HT_ ?_
       refine pu 2 42 (bl 9 5) HT_ ?_
       refine ta 1 41 (bl 9 7) HT_ HW_ hHeld ?_
       refine ta 3 43 (bl 9 15) HT_ HW_ hHeld ?_
       refine one_ (i := 4) (N := some 44) #[true, true, true, true, true, false, false, false, false] rfl rfl (one_of HT_.out (by kernel_rfl)) (by decide) (fun K hK => ?_)
       refine goes_ Tryz.func32 (by kernel_rfl) rfl #[.int .i64 a0_0] (by rfl) rfl rfl (by (try simp only [List.map_toArray, List.map_cons, List.map_nil]); first | done | rfl | (simp only [List.length_drop, List.length_take]; rfl)) ?_
       with_reducible refine (texts_magnitude.calls a0_0 t176 _ (env_at HE_.out (bw HB)) A24.out).mono ?_
       rintro e w35 ⟨rfl, hb⟩
       refine ⟨_, rfl, ?_⟩
       replace BK170 := Aside0.mk (bb BK170 hb)
       replace HB := Aside0.mk (below_step (bw HB) hb)
       (try clear hb)
       (try clear hb2)
       (try clear hk)
       (try clear hi)
       refine hK.out _ _ ⟨(blk_cell BK170.out 0).trans rfl, (blk_cell BK170.out 1).trans rfl⟩ (fun hHeld => ?_)
       clear hK K
       refine norm_ (a' := ?_) ?_ ?_
       rotate_left
       ·show Act.put _ (some 44) _ = _
        simp only [sx, i64_w, i32_w]
        rfl
       refine pu 5 45 (bl 9 63) HT_ ?_
       refine pu 6 46 (bl 9 127) HT_ ?_
       refine pu 7 47 (bl 9 255) HT_ ?_
       refine pu 8 10 (bl 9 511) HT_ ?_
       refine done_ (done_of HT_.out (by kernel_rfl)) ?_
       obtain ⟨hcz36_0, hcz36_1, hfz36_0, hfz36_1⟩ := cf2 BK170
       try go_wp2_with (first | ((with_reducible refine gate_callee (f := 37) rfl ?_); refine goesL_ (some 56) rfl rfl Tryz.func37 (by kernel_rfl) rfl #[.agg #[.int .i64 a0_0, .int .i64 (wrap64 (a0_1 - (wrap64 ((wrap64 (a0_1 + (t176.size : Int))) - 1))))], .int .i64 a2] rfl (by (try simp only [List.map_toArray, List.map_cons, List.map_nil]); first | done | rfl | (simp only [List.length_drop, List.length_take]; rfl)) ?_; (with_reducible refine (texts_scaled.calls a0_0 (wrap64 (a0_1 - (wrap64 ((wrap64 (a0_1 + (t176.size : Int))) - 1)))) a2 t177 _ (env_at HE_.out (bw HB)) A25.out).mono ?_); rintro e w37 ⟨rfl, hb⟩; refine ⟨_, rfl, ?_⟩; replace BK170 := Aside0.mk (bb BK170 hb); replace HB := Aside0.mk (below_step (bw HB) hb); (try clear hb); (try clear hb2); (try clear hk); (try clear hi)) | (go_at_call 37; (with_reducible refine (texts_scaled.calls a0_0 (wrap64 (a0_1 - (wrap64 ((wrap64 (a0_1 + (t176.size : Int))) - 1)))) a2 t177 _ (env_at HE_.out (bw HB)) A25.out).mono ?_); rintro e w37 ⟨rfl, hb⟩; replace BK170 := Aside0.mk (bb BK170 hb); replace HB := Aside0.mk (below_step (bw HB) hb); (try clear hb); (try clear hb2); (try clear hk); (try clear hi)))
       go_meet
       case rel => exact ⟨_, (t177), (wrap64 ((wrap64 (a0_1 + (t176.size : Int))) - 1)), (by first | rfl | (simp; done) | (simp [*]; done)), (by first | rfl | (simp; done) | (simp [*]; done)), H', ⟨by have := HJ4.out; first | omega | exact Nat.le_refl _⟩, ⟨by (with_reducible repeat (first | refine blk_drewN ?_ _ | refine blk_drew ?_ | refine blk_alloc ?_ _)); exact BK170.out⟩, ⟨bw HB⟩⟩
    case rest =>
     clear HC20
     try clear c1
     try clear c2
     try clear p2
     try clear c3
     try clear p6
     try clear c7
     try clear c7b0
     try clear c8
     try clear c8b0
     try clear c10
     try clear c12
     try clear c16
     try clear c23
     try clear c23b0
     try clear c23b1
     try clear c26
     try clear c26b0
     try clear c28
     try clear c28b0
     try clear c28b1
     try clear c29
     try clear c29b0
     try clear c29b1
     try clear c32
     try clear c36
     try clear c37
     try clear hcz14_0
     try clear hcz14_1
     try clear hcz22_0
     try clear hcz22_1
     try clear hcz32_0
     try clear hcz32_1
     try clear hcz36_0
     try clear hcz36_1
     try clear hfz14_0
     try clear hfz14_1
     try clear hfz22_0
     try clear hfz22_1
     try clear hfz32_0
     try clear hfz32_1
     try clear hfz36_0
     try clear hfz36_1
     try clear p2
     obtain ⟨kq, x9_19, x10_19, rfl, rfl, HA, HJ19, BK170, HB⟩ := hcut
     cases kq with
     | zero => exact absurd HA.out (by simp [texts_Float.j1])
     | succ kj19 =>
      have H := HA.out
      clear HA
      simp only [texts_Float.j1] at H
      replace H := Option.bind_eq_some_iff.mp H
      obtain ⟨t178, A380, H⟩ := H
      replace H : (if 0 ≤ 1 then (if 1 ≤ (x9_19.size : Int) then (if t178.size + (x9_19.extract 0 1).size ≤ 9223372036854775807 then (if a2 > 0 then (if 1 + (x9_19.extract 1 x9_19.size).size ≤ 9223372036854775807 then (if (t178 ++ (x9_19.extract 0 1)).size + ((⟨#[46]⟩ : ByteArray) ++ (x9_19.extract 1 x9_19.size)).size ≤ 9223372036854775807 then (texts_Float.j2 kj19 a1 a3 x10_19 ((t178 ++ (x9_19.extract 0 1)) ++ ((⟨#[46]⟩ : ByteArray) ++ (x9_19.extract 1 x9_19.size)))) else (none)) else (none)) else (texts_Float.j2 kj19 a1 a3 x10_19 (t178 ++ (x9_19.extract 0 1)))) else (none)) else (none)) else (none)) = some r := H
      have A38 := Aside0.mk A380
      clear A380
      by_cases c39 : 0 ≤ 1
      ·rw [if_pos c39] at H
       have c39b0 := eq_true c39
       have c39b1 : decide (0 ≤ 1) = true := decide_eq_true c39
       clear c39
       by_cases c40 : 1 ≤ (x9_19.size : Int)
       ·rw [if_pos c40] at H
        have c40b0 := eq_true c40
        have c40b1 : decide (1 ≤ (x9_19.size : Int)) = true := decide_eq_true c40
        clear c40
        obtain ⟨XA_, hXA_⟩ : ∃ X : ByteArray, (x9_19.extract 0 1) = X := ⟨_, rfl⟩
        obtain ⟨XR_, hXR_⟩ : ∃ X : ByteArray, (x9_19.extract 1 x9_19.size) = X := ⟨_, rfl⟩
        rw [hXR_, hXA_] at H
        by_cases c41 : t178.size + XA_.size ≤ 9223372036854775807
        ·rw [if_pos c41] at H
         have c41b0 := eq_true c41
         have c41b1 : decide (t178.size + XA_.size ≤ 9223372036854775807) = true := decide_eq_true c41
         try have c41b2 : (9223372036854775807 < t178.size + XA_.size) = False := eq_false (Nat.not_lt.2 c41)
         have HC42 := Aside0.mk H
         clear H
         try go_wp2
         replace BK170 := Aside0.mk (blk_drew BK170.out)
         replace HB := Aside0.mk (below_drew1 HB.out)
         refine start_ (n := 9) (S := fun w' => w'.cell? ⟨gb170, 0, none⟩ = some (.int .i64 a0_0) ∧ w'.cell? ⟨gb170, 1, none⟩ = some (.int .i64 a0_1)) (ds := []) #[false, false, false, false, false, false, false, false, false] (by kernel_rfl) rfl rfl ⟨(blk_cell BK170.out 0).trans rfl, (blk_cell BK170.out 1).trans rfl⟩ (fun hHeld => ?_); refine with_tabW texts_Float.tab9 texts_Float.bits9 (fun HT_ HW_ => ?_)
         generalize wc.drew = w43 at BK170 HB hHeld ⊢
         refine pu 0 68 (bl 9 1) HT_ ?_
         refine pu 3 71 (bl 9 9) HT_ ?_
         refine pu 5 73 (bl 9 41) HT_ ?_
         refine pu 6 74 (bl 9 105) HT_ ?_
         refine ta 1 69 (bl 9 107) HT_ HW_ hHeld ?_
         refine pu 2 70 (bl 9 111) HT_ ?_
         refine one_ (i := 4) (N := some 72) #[true, true, true, true, true, true, true, false, false] rfl rfl (one_of HT_.out (by kernel_rfl)) (by decide) (fun K hK => ?_)
         refine goes_ Tryz.func31 (by kernel_rfl) rfl #[.bool (decide (a0_0 < 0)), .int .i64 a1] (by rfl) rfl rfl (by (try simp only [List.map_toArray, List.map_cons, List.map_nil]); first | done | rfl | (simp only [List.length_drop, List.length_take]; rfl)) ?_
         with_reducible refine (texts_sign.calls (decide (a0_0 < 0)) a1 t178 _ A38.out).mono ?_
         rintro e w' ⟨rfl, ⟨nd, rfl⟩⟩
         refine ⟨_, rfl, ?_⟩
         refine hK.out _ _ ⟨(blk_cell BK170.out 0).trans rfl, (blk_cell BK170.out 1).trans rfl⟩ (fun hHeld => ?_)
         clear hK K
         refine norm_ (a' := ?_) ?_ ?_
         rotate_left
         ·show Act.put _ (some 72) _ = _
          simp only [sx, i64_w, i32_w]
          rfl
         refine pu 7 75 (bl 9 255) HT_ ?_
         refine pu 8 11 (bl 9 511) HT_ ?_
         refine done_ (done_of HT_.out (by kernel_rfl)) ?_
         go_upto_if 77 with (fail)
         go_cut [11] (fun v11 wc => ∃ (kq : Nat) (x11_41 : ByteArray), v11 = .string x11_41 ∧ Aside0 (texts_Float.j2 kq a1 a3 x10_19 x11_41 = some r) ∧ Aside0 (kq ≤ kj19) ∧ Aside0 (wc.heap[gb170]? = some (.cells #[.int .i64 a0_0, .int .i64 a0_1] 23 (0, 0))) ∧ Aside0 (Below w.heap.size w wc))
         case first =>
          have H := HC42.out
          clear HC42
          by_cases c44 : a2 > 0
          ·rw [if_pos c44] at H
           have c44b0 : decide (0 < a2) = true := decide_eq_true c44
           clear c44
           (first | rw [c44b0] | (simp only [i64_w, i32_w]; rw [c44b0]) | skip)
           have c45b0 := eq_true (of_decide_eq_true (by first | (with_reducible assumption) | assumption) : 1 ≤ (x9_19.size : Int))
           by_cases c46 : 1 + XR_.size ≤ 9223372036854775807
           ·rw [if_pos c46] at H
            have c46b0 := eq_true c46
            have c46b1 : decide (1 + XR_.size ≤ 9223372036854775807) = true := decide_eq_true c46
            try have c46b2 : (9223372036854775807 < 1 + XR_.size) = False := eq_false (Nat.not_lt.2 c46)
            by_cases c47 : (t178 ++ XA_).size + ((⟨#[46]⟩ : ByteArray) ++ XR_).size ≤ 9223372036854775807
            ·rw [if_pos c47] at H
             have c47b0 := eq_true c47
             have c47b1 : decide ((t178 ++ XA_).size + ((⟨#[46]⟩ : ByteArray) ++ XR_).size ≤ 9223372036854775807) = true := decide_eq_true c47
             try have c47b2 : (9223372036854775807 < (t178 ++ XA_).size + ((⟨#[46]⟩ : ByteArray) ++ XR_).size) = False := eq_false (Nat.not_lt.2 c47)
             have c47s : (9223372036854775807 < t178.size + XA_.size + (1 + XR_.size)) = False := eq_false (Nat.not_lt.2 (by have h := c47; rw [ByteArray.size_append, ByteArray.size_append] at h; exact h))
             have H' := Aside0.mk H
             clear H
             go_wp2
             go_meet
             case rel => exact ⟨_, ((t178 ++ XA_) ++ ((⟨#[46]⟩ : ByteArray) ++ XR_)), (by first | rfl | (simp; done) | (simp [*]; done)), H', ⟨by have := HJ4.out; have := HJ19.out; first | omega | exact Nat.le_refl _⟩, ⟨by (with_reducible repeat (first | refine blk_drewN ?_ _ | refine blk_drew ?_ | refine blk_alloc ?_ _)); exact BK170.out⟩, ⟨bw HB⟩⟩
            ·rw [if_neg c47] at H
             exact absurd H (by simp)
           ·rw [if_neg c46] at H
            exact absurd H (by simp)
          ·rw [if_neg c44] at H
           have c44b0 : decide (0 < a2) = false := decide_eq_false c44
           clear c44
           (first | rw [c44b0] | (simp only [i64_w, i32_w]; rw [c44b0]) | skip)
           have H' := Aside0.mk H
           clear H
           go_wp2
           go_meet
           case rel => exact ⟨_, (t178 ++ XA_), (by first | rfl | (simp; done) | (simp [*]; done)), H', ⟨by have := HJ4.out; have := HJ19.out; first | omega | exact Nat.le_refl _⟩, ⟨by (with_reducible repeat (first | refine blk_drewN ?_ _ | refine blk_drew ?_ | refine blk_alloc ?_ _)); exact BK170.out⟩, ⟨bw HB⟩⟩
         case rest =>
          clear HC42
          try clear c1
          try clear c2
          try clear p2
          try clear c3
          try clear c4
          try clear p6
          try clear c7
          try clear c7b0
          try clear c8
          try clear c8b0
          try clear c10
          try clear c12
          try clear c16
          try clear c23
          try clear c23b0
          try clear c23b1
          try clear c26
          try clear c26b0
          try clear c28
          try clear c28b0
          try clear c28b1
          try clear c29
          try clear c29b0
          try clear c29b1
          try clear c31
          try clear c32
          try clear c36
          try clear c37
          try clear c39
          try clear c39b0
          try clear c39b1
          try clear c40
          try clear c40b0
          try clear c40b1
          try clear c41
          try clear c41b0
          try clear c41b1
          try clear c41b2
          try clear c44
          try clear c44b0
          try clear c45
          try clear c45b0
          try clear c46
          try clear c46b0
          try clear c46b1
          try clear c46b2
          try clear c47
          try clear c47b0
          try clear c47b1
          try clear c47b2
          try clear hcz14_0
          try clear hcz14_1
          try clear hcz22_0
          try clear hcz22_1
          try clear hcz32_0
          try clear hcz32_1
          try clear hcz36_0
          try clear hcz36_1
          try clear hfz14_0
          try clear hfz14_1
          try clear hfz22_0
          try clear hfz22_1
          try clear hfz32_0
          try clear hfz32_1
          try clear hfz36_0
          try clear hfz36_1
          try clear p2
          try clear p6
          obtain ⟨kq, x11_41, rfl, HA, HJ41, BK170, HB⟩ := hcut
          cases kq with
          | zero => exact absurd HA.out (by simp [texts_Float.j2])
          | succ kj41 =>
           have H := HA.out
           clear HA
           simp only [texts_Float.j2] at H
           replace H := Option.bind_eq_some_iff.mp H
           obtain ⟨t179, A480, H⟩ := H
           replace H : (if x11_41.size + 1 ≤ 9223372036854775807 then (if (x11_41 ++ (⟨#[101]⟩ : ByteArray)).size + t179.size ≤ 9223372036854775807 then ((texts_filled.f ((x11_41 ++ (⟨#[101]⟩ : ByteArray)) ++ t179) a1).bind fun bt180 => (if bt180.2 = true then ((strings_Contains.f t179 (⟨#[42]⟩ : ByteArray)).bind fun t182 => (if t182 = true then ((texts_stars.f a1).bind fun t183 => (some t183)) else (some bt180.1))) else ((texts_stars.f a1).bind fun t184 => (some t184)))) else (none)) else (none)) = some r := H
           have A48 := Aside0.mk A480
           clear A480
           by_cases c49 : x11_41.size + 1 ≤ 9223372036854775807
           ·rw [if_pos c49] at H
            have c49b0 := eq_true c49
            have c49b1 : decide (x11_41.size + 1 ≤ 9223372036854775807) = true := decide_eq_true c49
            try have c49b2 : (9223372036854775807 < x11_41.size + 1) = False := eq_false (Nat.not_lt.2 c49)
            by_cases c50 : (x11_41 ++ (⟨#[101]⟩ : ByteArray)).size + t179.size ≤ 9223372036854775807
            ·rw [if_pos c50] at H
             have c50b0 := eq_true c50
             have c50b1 : decide ((x11_41 ++ (⟨#[101]⟩ : ByteArray)).size + t179.size ≤ 9223372036854775807) = true := decide_eq_true c50
             try have c50b2 : (9223372036854775807 < (x11_41 ++ (⟨#[101]⟩ : ByteArray)).size + t179.size) = False := eq_false (Nat.not_lt.2 c50)
             have c50s : (9223372036854775807 < x11_41.size + 1 + t179.size) = False := eq_false (Nat.not_lt.2 (by have h := c50; rw [ByteArray.size_append] at h; exact h))
             replace H := Option.bind_eq_some_iff.mp H
             obtain ⟨⟨t180, t181⟩, A510, H⟩ := H
             replace H : (if t181 = true then ((strings_Contains.f t179 (⟨#[42]⟩ : ByteArray)).bind fun t182 => (if t182 = true then ((texts_stars.f a1).bind fun t183 => (some t183)) else (some t180))) else ((texts_stars.f a1).bind fun t184 => (some t184))) = some r := H
             have A51 := Aside0.mk A510
             clear A510
             by_cases c52 : t181 = true
             ·subst c52
              have H1 : ((strings_Contains.f t179 (⟨#[42]⟩ : ByteArray)).bind fun t182 => (if t182 = true then ((texts_stars.f a1).bind fun t183 => (some t183)) else (some t180))) = some r := by rw [if_pos rfl] at H; exact H
              clear H
              have H := H1
              clear H1
              replace H := Option.bind_eq_some_iff.mp H
              obtain ⟨t182, A530, H⟩ := H
              replace H : (if t182 = true then ((texts_stars.f a1).bind fun t183 => (some t183)) else (some t180)) = some r := H
              have A53 := Aside0.mk A530
              clear A530
              by_cases c54 : t182 = true
              ·subst c54
               have H1 : ((texts_stars.f a1).bind fun t183 => (some t183)) = some r := by rw [if_pos rfl] at H; exact H
               clear H
               have H := H1
               clear H1
               replace H := Option.bind_eq_some_iff.mp H
               obtain ⟨t183, A550, H⟩ := H
               replace H : (some t183) = some r := H
               have A55 := Aside0.mk A550
               clear A550
               obtain rfl := Option.some.inj H
               go_wp2_with (first | ((with_reducible refine gate_callee (f := 8) rfl ?_); refine goesL_ (some 85) rfl rfl Tryz.func8 (by kernel_rfl) rfl #[.int .i64 x10_19, .int .i64 a3] rfl (by (try simp only [List.map_toArray, List.map_cons, List.map_nil]); first | done | rfl | (simp only [List.length_drop, List.length_take]; rfl)) ?_; (with_reducible refine (texts_Whole.calls x10_19 a3 t179 _ (env_at HE_.out (bw HB)) A48.out).mono ?_); rintro e w56 ⟨rfl, hb⟩; refine ⟨_, rfl, ?_⟩; replace BK170 := Aside0.mk (bb BK170 hb); replace HB := Aside0.mk (below_step (bw HB) hb); (try clear hb); (try clear hb2); (try clear hk); (try clear hi)) | (go_at_call 8; (with_reducible refine (texts_Whole.calls x10_19 a3 t179 _ (env_at HE_.out (bw HB)) A48.out).mono ?_); rintro e w56 ⟨rfl, hb⟩; replace BK170 := Aside0.mk (bb BK170 hb); replace HB := Aside0.mk (below_step (bw HB) hb); (try clear hb); (try clear hb2); (try clear hk); (try clear hi)) | ((with_reducible refine gate_callee (f := 30) rfl ?_); refine goesL_ (some 92) rfl rfl Tryz.func30 (by kernel_rfl) rfl #[.string ((x11_41 ++ (⟨#[101]⟩ : ByteArray)) ++ t179), .int .i64 a1] rfl (by (try simp only [List.map_toArray, List.map_cons, List.map_nil]); first | done | rfl | (simp only [List.length_drop, List.length_take]; rfl)) ?_; (with_reducible refine (texts_filled.calls ((x11_41 ++ (⟨#[101]⟩ : ByteArray)) ++ t179) a1 t180 true _ A51.out).mono ?_); rintro e w57 ⟨rfl, hb⟩; refine ⟨_, rfl, ?_⟩; replace BK170 := Aside0.mk (bb BK170 hb); replace HB := Aside0.mk (below_step (bw HB) hb); (try clear hb); (try clear hb2); (try clear hk); (try clear hi)) | (go_at_call 30; (with_reducible refine (texts_filled.calls ((x11_41 ++ (⟨#[101]⟩ : ByteArray)) ++ t179) a1 t180 true _ A51.out).mono ?_); rintro e w57 ⟨rfl, hb⟩; replace BK170 := Aside0.mk (bb BK170 hb); replace HB := Aside0.mk (below_step (bw HB) hb); (try clear hb); (try clear hb2); (try clear hk); (try clear hi)) | (go_at_call 11; (with_reducible refine (strings_Contains.calls t179 (⟨#[42]⟩ : ByteArray) true _ A53.out).mono ?_); rintro e w' ⟨rfl, ⟨nd, rfl⟩⟩) | ((with_reducible refine gate_callee (f := 29) rfl ?_); refine goesL_ (some 102) rfl rfl Tryz.func29 (by kernel_rfl) rfl #[.int .i64 a1] rfl (by (try simp only [List.map_toArray, List.map_cons, List.map_nil]); first | done | rfl | (simp only [List.length_drop, List.length_take]; rfl)) ?_; (with_reducible refine (texts_stars.calls a1 t183 _ A55.out).mono ?_); rintro e w58 ⟨rfl, hb⟩; refine ⟨_, rfl, ?_⟩; replace BK170 := Aside0.mk (bb BK170 hb); replace HB := Aside0.mk (below_step (bw HB) hb); (try clear hb); (try clear hb2); (try clear hk); (try clear hi)) | (go_at_call 29; (with_reducible refine (texts_stars.calls a1 t183 _ A55.out).mono ?_); rintro e w58 ⟨rfl, hb⟩; replace BK170 := Aside0.mk (bb BK170 hb); replace HB := Aside0.mk (below_step (bw HB) hb); (try clear hb); (try clear hb2); (try clear hk); (try clear hi)))
               go_ret
               exact ⟨by first | rfl | (simp [errW_none, errW_some] <;> rfl) | (simp [*, errW_none, errW_some] <;> rfl), bw HB⟩
              ·replace c54 := Bool.eq_false_iff.mpr c54
               subst c54
               have H1 : (some t180) = some r := by rw [if_neg (show ¬ (false = true) by decide)] at H; exact H
               clear H
               have H := H1
               clear H1
               obtain rfl := Option.some.inj H
               go_wp2_with (first | ((with_reducible refine gate_callee (f := 8) rfl ?_); refine goesL_ (some 85) rfl rfl Tryz.func8 (by kernel_rfl) rfl #[.int .i64 x10_19, .int .i64 a3] rfl (by (try simp only [List.map_toArray, List.map_cons, List.map_nil]); first | done | rfl | (simp only [List.length_drop, List.length_take]; rfl)) ?_; (with_reducible refine (texts_Whole.calls x10_19 a3 t179 _ (env_at HE_.out (bw HB)) A48.out).mono ?_); rintro e w59 ⟨rfl, hb⟩; refine ⟨_, rfl, ?_⟩; replace BK170 := Aside0.mk (bb BK170 hb); replace HB := Aside0.mk (below_step (bw HB) hb); (try clear hb); (try clear hb2); (try clear hk); (try clear hi)) | (go_at_call 8; (with_reducible refine (texts_Whole.calls x10_19 a3 t179 _ (env_at HE_.out (bw HB)) A48.out).mono ?_); rintro e w59 ⟨rfl, hb⟩; replace BK170 := Aside0.mk (bb BK170 hb); replace HB := Aside0.mk (below_step (bw HB) hb); (try clear hb); (try clear hb2); (try clear hk); (try clear hi)) | ((with_reducible refine gate_callee (f := 30) rfl ?_); refine goesL_ (some 92) rfl rfl Tryz.func30 (by kernel_rfl) rfl #[.string ((x11_41 ++ (⟨#[101]⟩ : ByteArray)) ++ t179), .int .i64 a1] rfl (by (try simp only [List.map_toArray, List.map_cons, List.map_nil]); first | done | rfl | (simp only [List.length_drop, List.length_take]; rfl)) ?_; (with_reducible refine (texts_filled.calls ((x11_41 ++ (⟨#[101]⟩ : ByteArray)) ++ t179) a1 t180 true _ A51.out).mono ?_); rintro e w60 ⟨rfl, hb⟩; refine ⟨_, rfl, ?_⟩; replace BK170 := Aside0.mk (bb BK170 hb); replace HB := Aside0.mk (below_step (bw HB) hb); (try clear hb); (try clear hb2); (try clear hk); (try clear hi)) | (go_at_call 30; (with_reducible refine (texts_filled.calls ((x11_41 ++ (⟨#[101]⟩ : ByteArray)) ++ t179) a1 t180 true _ A51.out).mono ?_); rintro e w60 ⟨rfl, hb⟩; replace BK170 := Aside0.mk (bb BK170 hb); replace HB := Aside0.mk (below_step (bw HB) hb); (try clear hb); (try clear hb2); (try clear hk); (try clear hi)) | (go_at_call 11; (with_reducible refine (strings_Contains.calls t179 (⟨#[42]⟩ : ByteArray) false _ A53.out).mono ?_); rintro e w' ⟨rfl, ⟨nd, rfl⟩⟩))
               go_ret
               exact ⟨by first | rfl | (simp [errW_none, errW_some] <;> rfl) | (simp [*, errW_none, errW_some] <;> rfl), bw HB⟩
             ·replace c52 := Bool.eq_false_iff.mpr c52
              subst c52
              have H1 : ((texts_stars.f a1).bind fun t184 => (some t184)) = some r := by rw [if_neg (show ¬ (false = true) by decide)] at H; exact H
              clear H
              have H := H1
              clear H1
              replace H := Option.bind_eq_some_iff.mp H
              obtain ⟨t184, A610, H⟩ := H
              replace H : (some t184) = some r := H
              have A61 := Aside0.mk A610
              clear A610
              obtain rfl := Option.some.inj H
              go_wp2_with (first | ((with_reducible refine gate_callee (f := 8) rfl ?_); refine goesL_ (some 85) rfl rfl Tryz.func8 (by kernel_rfl) rfl #[.int .i64 x10_19, .int .i64 a3] rfl (by (try simp only [List.map_toArray, List.map_cons, List.map_nil]); first | done | rfl | (simp only [List.length_drop, List.length_take]; rfl)) ?_; (with_reducible refine (texts_Whole.calls x10_19 a3 t179 _ (env_at HE_.out (bw HB)) A48.out).mono ?_); rintro e w62 ⟨rfl, hb⟩; refine ⟨_, rfl, ?_⟩; replace BK170 := Aside0.mk (bb BK170 hb); replace HB := Aside0.mk (below_step (bw HB) hb); (try clear hb); (try clear hb2); (try clear hk); (try clear hi)) | (go_at_call 8; (with_reducible refine (texts_Whole.calls x10_19 a3 t179 _ (env_at HE_.out (bw HB)) A48.out).mono ?_); rintro e w62 ⟨rfl, hb⟩; replace BK170 := Aside0.mk (bb BK170 hb); replace HB := Aside0.mk (below_step (bw HB) hb); (try clear hb); (try clear hb2); (try clear hk); (try clear hi)) | ((with_reducible refine gate_callee (f := 30) rfl ?_); refine goesL_ (some 92) rfl rfl Tryz.func30 (by kernel_rfl) rfl #[.string ((x11_41 ++ (⟨#[101]⟩ : ByteArray)) ++ t179), .int .i64 a1] rfl (by (try simp only [List.map_toArray, List.map_cons, List.map_nil]); first | done | rfl | (simp only [List.length_drop, List.length_take]; rfl)) ?_; (with_reducible refine (texts_filled.calls ((x11_41 ++ (⟨#[101]⟩ : ByteArray)) ++ t179) a1 t180 false _ A51.out).mono ?_); rintro e w63 ⟨rfl, hb⟩; refine ⟨_, rfl, ?_⟩; replace BK170 := Aside0.mk (bb BK170 hb); replace HB := Aside0.mk (below_step (bw HB) hb); (try clear hb); (try clear hb2); (try clear hk); (try clear hi)) | (go_at_call 30; (with_reducible refine (texts_filled.calls ((x11_41 ++ (⟨#[101]⟩ : ByteArray)) ++ t179) a1 t180 false _ A51.out).mono ?_); rintro e w63 ⟨rfl, hb⟩; replace BK170 := Aside0.mk (bb BK170 hb); replace HB := Aside0.mk (below_step (bw HB) hb); (try clear hb); (try clear hb2); (try clear hk); (try clear hi)) | ((with_reducible refine gate_callee (f := 29) rfl ?_); refine goesL_ (some 102) rfl rfl Tryz.func29 (by kernel_rfl) rfl #[.int .i64 a1] rfl (by (try simp only [List.map_toArray, List.map_cons, List.map_nil]); first | done | rfl | (simp only [List.length_drop, List.length_take]; rfl)) ?_; (with_reducible refine (texts_stars.calls a1 t184 _ A61.out).mono ?_); rintro e w64 ⟨rfl, hb⟩; refine ⟨_, rfl, ?_⟩; replace BK170 := Aside0.mk (bb BK170 hb); replace HB := Aside0.mk (below_step (bw HB) hb); (try clear hb); (try clear hb2); (try clear hk); (try clear hi)) | (go_at_call 29; (with_reducible refine (texts_stars.calls a1 t184 _ A61.out).mono ?_); rintro e w64 ⟨rfl, hb⟩; replace BK170 := Aside0.mk (bb BK170 hb); replace HB := Aside0.mk (below_step (bw HB) hb); (try clear hb); (try clear hb2); (try clear hk); (try clear hi)))
              go_ret
              exact ⟨by first | rfl | (simp [errW_none, errW_some] <;> rfl) | (simp [*, errW_none, errW_some] <;> rfl), bw HB⟩
            ·rw [if_neg c50] at H
             exact absurd H (by simp)
           ·rw [if_neg c49] at H
            exact absurd H (by simp)
        ·rw [if_neg c41] at H
         exact absurd H (by simp)
       ·rw [if_neg c40] at H
        exact absurd H (by simp)
      ·rw [if_neg c39] at H
       exact absurd H (by simp)
end Go.Proofs.YtckbmniiecbalaaGreatDoor.PT
