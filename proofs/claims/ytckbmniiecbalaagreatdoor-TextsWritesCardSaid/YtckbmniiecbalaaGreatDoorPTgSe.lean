-- written by a program of this session out of the kit's print (its words and its form)
import Derived.Test.YtckbmniiecbalaaGreatDoorPTgRa
import Derived.Test.YtckbmniiecbalaaGreatDoorPTgSb
import Derived.Test.YtckbmniiecbalaaGreatDoorPTgSd
import Derived.Test.YtckbmniiecbalaaGreatDoorPTsq
import Derived.Test.YtckbmniiecbalaaGreatDoorPTx0
namespace Go.Proofs.YtckbmniiecbalaaGreatDoor.PT
open Go.RowKit Go.Proofs.YtckbmniiecbalaaGreatDoorW.PrintWords Go.Proofs.YtckbmniiecbalaaGreatDoorW.PrintLast Go.Proofs.YtckbmniiecbalaaGreatDoorW.PrintMore
attribute [local go_sem] max2_int min2_int max_two min_two max_three min_three max_four min_four   -- for this text's walks alone
set_option linter.unusedVariables false
set_option linter.unusedSimpArgs false

/-! ### environref03_Fixed: function 14 -/
mutual
def environref03_Fixed.j0 : Nat → Int → Int → Bool → Int → Int → Option (ByteArray)
 | 0, _, _, _, _, _ => none
 | k + 1, x1, x2, x24, x403000, x403001 => if x24 = true then (some (⟨#[42]⟩ : ByteArray)) else (environref03_Fixed.l0 k x1 x2 x403000 x403001)
def environref03_Fixed.l0 : Nat → Int → Int → Int → Int → Option (ByteArray)
 | 0, _, _, _, _ => none
 | k + 1, x1, x7, x403000, x403001 => if x7 ≥ 0 then ((environref03_point.f k x403000 x403001 x7).bind fun t407 => ((environref03_sign.f (decide (x403000 < 0)) x1).bind fun t408 => (if t408.size + t407.size ≤ 9223372036854775807 then (if x1 = 0 then (environref03_Fixed.j2 k x1 x7 t407 (t408 ++ t407) false x403000 x403001) else ((environref03_size.f x1).bind fun t409 => (if ((t408 ++ t407).size : Int) = (wrap64 (t409 + 1)) then (if x7 > 0 then (if 0 < (t407.size : Int) then (if (bt t407 0) = 48 then (if 1 < (t407.size : Int) then (environref03_Fixed.j2 k x1 x7 t407 (t408 ++ t407) ((bt t407 1) == 46) x403000 x403001) else (none)) else (environref03_Fixed.j2 k x1 x7 t407 (t408 ++ t407) false x403000 x403001)) else (none)) else (environref03_Fixed.j2 k x1 x7 t407 (t408 ++ t407) false x403000 x403001)) else (environref03_Fixed.j2 k x1 x7 t407 (t408 ++ t407) false x403000 x403001)))) else (none)))) else ((environref03_size.f x1).bind fun t405 => ((environref03_repeat.f k 42 t405).bind fun t406 => (some t406)))
def environref03_Fixed.j2 : Nat → Int → Int → ByteArray → ByteArray → Bool → Int → Int → Option (ByteArray)
 | 0, _, _, _, _, _, _, _ => none
 | k + 1, x1, x7, x8, x9, x63, x403000, x403001 => if x63 = true then ((environref03_sign.f (decide (x403000 < 0)) x1).bind fun t410 => (if 1 ≤ (x8.size : Int) then (if t410.size + (x8.extract 1 x8.size).size ≤ 9223372036854775807 then (environref03_Fixed.j3 k x1 x7 (t410 ++ (x8.extract 1 x8.size)) x403000 x403001) else (none)) else (none))) else (environref03_Fixed.j3 k x1 x7 x9 x403000 x403001)
def environref03_Fixed.j3 : Nat → Int → Int → ByteArray → Int → Int → Option (ByteArray)
 | 0, _, _, _, _, _ => none
 | k + 1, x1, x7, x9, x403000, x403001 => if x1 = 0 then ((environref03_fill.f k x9 x1).bind fun t411 => (some t411)) else ((environref03_size.f x1).bind fun t412 => (if (x9.size : Int) ≤ t412 then ((environref03_fill.f k x9 x1).bind fun t413 => (some t413)) else (environref03_Fixed.l0 k x1 (wrap64 (x7 - 1)) x403000 x403001)))
end
def environref03_Fixed.f (k : Nat) (a0_0 : Int) (a0_1 : Int) (a1 : Int) (a2 : Int) : Option (ByteArray) := (environref03_wide.f a1).bind fun t403 => (if t403 = true then (environref03_Fixed.j0 k a1 a2 true a0_0 a0_1) else (if a2 < 0 then (environref03_Fixed.j0 k a1 a2 true a0_0 a0_1) else (if a2 > 500 then (environref03_Fixed.j0 k a1 a2 true a0_0 a0_1) else ((environref02_Valid.f k 1 a0_0 a0_1).bind fun t404 => (environref03_Fixed.j0 k a1 a2 (!t404) a0_0 a0_1)))))
theorem environref03_Fixed.mono_l : ∀ k, (∀ y0 y1 y2 y3 y4, LeO (environref03_Fixed.j0 k y0 y1 y2 y3 y4) (environref03_Fixed.j0 (k + 1) y0 y1 y2 y3 y4)) ∧ (∀ y0 y1 y2 y3, LeO (environref03_Fixed.l0 k y0 y1 y2 y3) (environref03_Fixed.l0 (k + 1) y0 y1 y2 y3)) ∧ (∀ y0 y1 y2 y3 y4 y5 y6, LeO (environref03_Fixed.j2 k y0 y1 y2 y3 y4 y5 y6) (environref03_Fixed.j2 (k + 1) y0 y1 y2 y3 y4 y5 y6)) ∧ (∀ y0 y1 y2 y3 y4, LeO (environref03_Fixed.j3 k y0 y1 y2 y3 y4) (environref03_Fixed.j3 (k + 1) y0 y1 y2 y3 y4))
 | 0 => ⟨fun _ _ _ _ _ r h => by simp [environref03_Fixed.j0] at h, fun _ _ _ _ r h => by simp [environref03_Fixed.l0] at h, fun _ _ _ _ _ _ _ r h => by simp [environref03_Fixed.j2] at h, fun _ _ _ _ _ r h => by simp [environref03_Fixed.j3] at h⟩
 | k + 1 => by
  obtain ⟨ih0, ih1, ih2, ih3⟩ := environref03_Fixed.mono_l k
  refine ⟨?_, ?_, ?_, ?_⟩
  ·intro y0 y1 y2 y3 y4
   unfold environref03_Fixed.j0
   repeat' first
   | (with_reducible exact ih0 _ _ _ _ _)
   | (with_reducible exact ih1 _ _ _ _)
   | (with_reducible exact ih2 _ _ _ _ _ _ _)
   | (with_reducible exact ih3 _ _ _ _ _)
   | (with_reducible exact environref02_Valid.mono _ _ _ _)
   | (with_reducible exact environref03_fill.mono _ _ _)
   | (with_reducible exact environref03_point.mono _ _ _ _)
   | (with_reducible exact environref03_repeat.mono _ _ _)
   | (with_reducible exact LeO.refl _)
   | (with_reducible exact LeO.none _)
   | (with_reducible refine LeO.ite ?_ ?_)
   | (with_reducible refine LeO.bind ?_ (fun _ => ?_))
   | exact ih0 _ _ _ _ _
   | exact ih1 _ _ _ _
   | exact ih2 _ _ _ _ _ _ _
   | exact ih3 _ _ _ _ _
   | exact environref02_Valid.mono _ _ _ _
   | exact environref03_fill.mono _ _ _
   | exact environref03_point.mono _ _ _ _
   | exact environref03_repeat.mono _ _ _
   | exact LeO.none _
   | refine LeO.ite ?_ ?_
   | refine LeO.bind ?_ (fun _ => ?_)
  ·intro y0 y1 y2 y3
   unfold environref03_Fixed.l0
   repeat' first
   | (with_reducible exact ih0 _ _ _ _ _)
   | (with_reducible exact ih1 _ _ _ _)
   | (with_reducible exact ih2 _ _ _ _ _ _ _)
   | (with_reducible exact ih3 _ _ _ _ _)
   | (with_reducible exact environref02_Valid.mono _ _ _ _)
   | (with_reducible exact environref03_fill.mono _ _ _)
   | (with_reducible exact environref03_point.mono _ _ _ _)
   | (with_reducible exact environref03_repeat.mono _ _ _)
   | (with_reducible exact LeO.refl _)
   | (with_reducible exact LeO.none _)
   | (with_reducible refine LeO.ite ?_ ?_)
   | (with_reducible refine LeO.bind ?_ (fun _ => ?_))
   | exact ih0 _ _ _ _ _
   | exact ih1 _ _ _ _
   | exact ih2 _ _ _ _ _ _ _
   | exact ih3 _ _ _ _ _
   | exact environref02_Valid.mono _ _ _ _
   | exact environref03_fill.mono _ _ _
   | exact environref03_point.mono _ _ _ _
   | exact environref03_repeat.mono _ _ _
   | exact LeO.none _
   | refine LeO.ite ?_ ?_
   | refine LeO.bind ?_ (fun _ => ?_)
  ·intro y0 y1 y2 y3 y4 y5 y6
   unfold environref03_Fixed.j2
   repeat' first
   | (with_reducible exact ih0 _ _ _ _ _)
   | (with_reducible exact ih1 _ _ _ _)
   | (with_reducible exact ih2 _ _ _ _ _ _ _)
   | (with_reducible exact ih3 _ _ _ _ _)
   | (with_reducible exact environref02_Valid.mono _ _ _ _)
   | (with_reducible exact environref03_fill.mono _ _ _)
   | (with_reducible exact environref03_point.mono _ _ _ _)
   | (with_reducible exact environref03_repeat.mono _ _ _)
   | (with_reducible exact LeO.refl _)
   | (with_reducible exact LeO.none _)
   | (with_reducible refine LeO.ite ?_ ?_)
   | (with_reducible refine LeO.bind ?_ (fun _ => ?_))
   | exact ih0 _ _ _ _ _
   | exact ih1 _ _ _ _
   | exact ih2 _ _ _ _ _ _ _
   | exact ih3 _ _ _ _ _
   | exact environref02_Valid.mono _ _ _ _
   | exact environref03_fill.mono _ _ _
   | exact environref03_point.mono _ _ _ _
   | exact environref03_repeat.mono _ _ _
   | exact LeO.none _
   | refine LeO.ite ?_ ?_
   | refine LeO.bind ?_ (fun _ => ?_)
  ·intro y0 y1 y2 y3 y4
   unfold environref03_Fixed.j3
   repeat' first
   | (with_reducible exact ih0 _ _ _ _ _)
   | (with_reducible exact ih1 _ _ _ _)
   | (with_reducible exact ih2 _ _ _ _ _ _ _)
   | (with_reducible exact ih3 _ _ _ _ _)
   | (with_reducible exact environref02_Valid.mono _ _ _ _)
   | (with_reducible exact environref03_fill.mono _ _ _)
   | (with_reducible exact environref03_point.mono _ _ _ _)
   | (with_reducible exact environref03_repeat.mono _ _ _)
   | (with_reducible exact LeO.refl _)
   | (with_reducible exact LeO.none _)
   | (with_reducible refine LeO.ite ?_ ?_)
   | (with_reducible refine LeO.bind ?_ (fun _ => ?_))
   | exact ih0 _ _ _ _ _
   | exact ih1 _ _ _ _
   | exact ih2 _ _ _ _ _ _ _
   | exact ih3 _ _ _ _ _
   | exact environref02_Valid.mono _ _ _ _
   | exact environref03_fill.mono _ _ _
   | exact environref03_point.mono _ _ _ _
   | exact environref03_repeat.mono _ _ _
   | exact LeO.none _
   | refine LeO.ite ?_ ?_
   | refine LeO.bind ?_ (fun _ => ?_)
theorem environref03_Fixed.mono : ∀ a0 a1 a2 a3 k, LeO (environref03_Fixed.f k a0 a1 a2 a3) (environref03_Fixed.f (k + 1) a0 a1 a2 a3) := by
 intro a0 a1 a2 a3 k
 obtain ⟨ih0, ih1, ih2, ih3⟩ := environref03_Fixed.mono_l k
 unfold environref03_Fixed.f
 repeat' first
   | (with_reducible exact ih0 _ _ _ _ _)
   | (with_reducible exact ih1 _ _ _ _)
   | (with_reducible exact ih2 _ _ _ _ _ _ _)
   | (with_reducible exact ih3 _ _ _ _ _)
   | (with_reducible exact environref02_Valid.mono _ _ _ _)
   | (with_reducible exact environref03_fill.mono _ _ _)
   | (with_reducible exact environref03_point.mono _ _ _ _)
   | (with_reducible exact environref03_repeat.mono _ _ _)
   | (with_reducible exact LeO.refl _)
   | (with_reducible exact LeO.none _)
   | (with_reducible refine LeO.ite ?_ ?_)
   | (with_reducible refine LeO.bind ?_ (fun _ => ?_))
   | exact ih0 _ _ _ _ _
   | exact ih1 _ _ _ _
   | exact ih2 _ _ _ _ _ _ _
   | exact ih3 _ _ _ _ _
   | exact environref02_Valid.mono _ _ _ _
   | exact environref03_fill.mono _ _ _
   | exact environref03_point.mono _ _ _ _
   | exact environref03_repeat.mono _ _ _
   | exact LeO.none _
   | refine LeO.ite ?_ ?_
   | refine LeO.bind ?_ (fun _ => ?_)
set_option maxHeartbeats 8000000 in
set_option maxRecDepth 100000 in
theorem environref03_Fixed.calls (k : Nat) (a0_0 : Int) (a0_1 : Int) (a1 : Int) (a2 : Int) (r : ByteArray) (w : World) (h : environref03_Fixed.f k a0_0 a0_1 a1 a2 = some r) :
  Calls Tryz.prog 14 #[.agg #[.int .i64 a0_0, .int .i64 a0_1], .int .i64 a1, .int .i64 a2] w fun e w' => e = .returned (.string r) ∧ Below w.heap.size w w' := by
 have hu23 := Tryz.underlying23
 have HB := Aside0.mk (Below.refl w.heap.size w)
 have H : ((environref03_wide.f a1).bind fun t403 => (if t403 = true then (environref03_Fixed.j0 k a1 a2 true a0_0 a0_1) else (if a2 < 0 then (environref03_Fixed.j0 k a1 a2 true a0_0 a0_1) else (if a2 > 500 then (environref03_Fixed.j0 k a1 a2 true a0_0 a0_1) else ((environref02_Valid.f k 1 a0_0 a0_1).bind fun t404 => (environref03_Fixed.j0 k a1 a2 (!t404) a0_0 a0_1)))))) = some r := h
 clear h
 have HC4 := Aside0.mk H
 clear H
 go_enter Tryz.func14, Tryz.ntmps14
 go_upto_region 1 with (first | ((with_reducible refine gate_dst (N := 3) rfl ?_); (try (refine gate_guard (by rfl) ?_; dsimp only)); refine box_event ?hg (N := 3) ?hd (cs := #[.int .i64 a0_0, .int .i64 a0_1]) (t := 23) ?hr ?_; (case hd => rfl); (case hg => rfl); (case hr => first | (go_simp; done) | (go_simp; rfl)); intro gb402 hg w5 hbox hb; have BK402 := Aside0.mk (hbox); have GW402 := Aside0.mk (bs HB hg : w.heap.size ≤ gb402); replace HB := Aside0.mk (below_step (bw HB) hb); clear hb hbox hg))
 repeat (go_quiet (first | ((with_reducible refine gate_dst (N := 3) rfl ?_); (try (refine gate_guard (by rfl) ?_; dsimp only)); refine box_event ?hg (N := 3) ?hd (cs := #[.int .i64 a0_0, .int .i64 a0_1]) (t := 23) ?hr ?_; (case hd => rfl); (case hg => rfl); (case hr => first | (go_simp; done) | (go_simp; rfl)); intro gb402 hg w5 hbox hb; have BK402 := Aside0.mk (hbox); have GW402 := Aside0.mk (bs HB hg : w.heap.size ≤ gb402); replace HB := Aside0.mk (below_step (bw HB) hb); clear hb hbox hg)); go_upto_region 1 with (first | ((with_reducible refine gate_dst (N := 3) rfl ?_); (try (refine gate_guard (by rfl) ?_; dsimp only)); refine box_event ?hg (N := 3) ?hd (cs := #[.int .i64 a0_0, .int .i64 a0_1]) (t := 23) ?hr ?_; (case hd => rfl); (case hg => rfl); (case hr => first | (go_simp; done) | (go_simp; rfl)); intro gb402 hg w5 hbox hb; have BK402 := Aside0.mk (hbox); have GW402 := Aside0.mk (bs HB hg : w.heap.size ≤ gb402); replace HB := Aside0.mk (below_step (bw HB) hb); clear hb hbox hg)))
 (try simp only [sx])
 go_cut [24] (fun v24 wc => ∃ (kq : Nat) (x24_3 : Bool), v24 = .bool x24_3 ∧ Aside0 (environref03_Fixed.j0 kq a1 a2 x24_3 a0_0 a0_1 = some r) ∧ Aside0 (kq ≤ k) ∧ Aside0 (wc.heap[gb402]? = some (.cells #[.int .i64 a0_0, .int .i64 a0_1] 23 (0, 0))) ∧ Aside0 (Below w.heap.size w wc))
 case first =>
  have H := HC4.out
  clear HC4
  replace H := Option.bind_eq_some_iff.mp H
  obtain ⟨t403, A60, H⟩ := H
  replace H : (if t403 = true then (environref03_Fixed.j0 k a1 a2 true a0_0 a0_1) else (if a2 < 0 then (environref03_Fixed.j0 k a1 a2 true a0_0 a0_1) else (if a2 > 500 then (environref03_Fixed.j0 k a1 a2 true a0_0 a0_1) else ((environref02_Valid.f k 1 a0_0 a0_1).bind fun t404 => (environref03_Fixed.j0 k a1 a2 (!t404) a0_0 a0_1))))) = some r := H
  have A6 := Aside0.mk A60
  clear A60
  by_cases c7 : t403 = true
  ·subst c7
   have H1 : (environref03_Fixed.j0 k a1 a2 true a0_0 a0_1) = some r := by rw [if_pos rfl] at H; exact H
   clear H
   have H := H1
   clear H1
   have H' := Aside0.mk H
   clear H
   go_wp2_with (first | (go_at_call 46; (with_reducible refine (environref03_wide.calls a1 true _ A6.out).mono ?_); rintro e w' ⟨rfl, ⟨nd, rfl⟩⟩; (try first | exact ⟨rfl, _, World.drewN_drewN _ _ _⟩ | exact ⟨rfl, _, Eq.trans (World.drewN_drewN _ _ _) (congrArg (World.drewN _) (Nat.add_assoc _ _ _))⟩)))
   repeat (go_quiet (first | (go_at_call 46; (with_reducible refine (environref03_wide.calls a1 true _ A6.out).mono ?_); rintro e w' ⟨rfl, ⟨nd, rfl⟩⟩; (try first | exact ⟨rfl, _, World.drewN_drewN _ _ _⟩ | exact ⟨rfl, _, Eq.trans (World.drewN_drewN _ _ _) (congrArg (World.drewN _) (Nat.add_assoc _ _ _))⟩))); try go_wp2_with (first | (go_at_call 46; (with_reducible refine (environref03_wide.calls a1 true _ A6.out).mono ?_); rintro e w' ⟨rfl, ⟨nd, rfl⟩⟩; (try first | exact ⟨rfl, _, World.drewN_drewN _ _ _⟩ | exact ⟨rfl, _, Eq.trans (World.drewN_drewN _ _ _) (congrArg (World.drewN _) (Nat.add_assoc _ _ _))⟩))))
   go_meet
   case rel => exact ⟨_, (true), (by first | rfl | (simp; done) | (simp [*]; done)), H', ⟨by first | omega | exact Nat.le_refl _⟩, ⟨by (with_reducible repeat (first | refine blk_drewN ?_ _ | refine blk_drew ?_ | refine blk_alloc ?_ _)); exact BK402.out⟩, ⟨bw HB⟩⟩
  ·replace c7 := Bool.eq_false_iff.mpr c7
   subst c7
   have H1 : (if a2 < 0 then (environref03_Fixed.j0 k a1 a2 true a0_0 a0_1) else (if a2 > 500 then (environref03_Fixed.j0 k a1 a2 true a0_0 a0_1) else ((environref02_Valid.f k 1 a0_0 a0_1).bind fun t404 => (environref03_Fixed.j0 k a1 a2 (!t404) a0_0 a0_1)))) = some r := by rw [if_neg (show ¬ (false = true) by decide)] at H; exact H
   clear H
   have H := H1
   clear H1
   by_cases c8 : a2 < 0
   ·rw [if_pos c8] at H
    have c8b0 : decide (a2 < 0) = true := decide_eq_true c8
    clear c8
    (first | rw [c8b0] | (simp only [i64_w, i32_w]; rw [c8b0]) | skip)
    have H' := Aside0.mk H
    clear H
    go_wp2_with (first | (go_at_call 46; (with_reducible refine (environref03_wide.calls a1 false _ A6.out).mono ?_); rintro e w' ⟨rfl, ⟨nd, rfl⟩⟩; (try first | exact ⟨rfl, _, World.drewN_drewN _ _ _⟩ | exact ⟨rfl, _, Eq.trans (World.drewN_drewN _ _ _) (congrArg (World.drewN _) (Nat.add_assoc _ _ _))⟩)))
    repeat (go_quiet (first | (go_at_call 46; (with_reducible refine (environref03_wide.calls a1 false _ A6.out).mono ?_); rintro e w' ⟨rfl, ⟨nd, rfl⟩⟩; (try first | exact ⟨rfl, _, World.drewN_drewN _ _ _⟩ | exact ⟨rfl, _, Eq.trans (World.drewN_drewN _ _ _) (congrArg (World.drewN _) (Nat.add_assoc _ _ _))⟩))); try go_wp2_with (first | (go_at_call 46; (with_reducible refine (environref03_wide.calls a1 false _ A6.out).mono ?_); rintro e w' ⟨rfl, ⟨nd, rfl⟩⟩; (try first | exact ⟨rfl, _, World.drewN_drewN _ _ _⟩ | exact ⟨rfl, _, Eq.trans (World.drewN_drewN _ _ _) (congrArg (World.drewN _) (Nat.add_assoc _ _ _))⟩))))
    go_meet
    case rel => exact ⟨_, (true), (by first | rfl | (simp; done) | (simp [*]; done)), H', ⟨by first | omega | exact Nat.le_refl _⟩, ⟨by (with_reducible repeat (first | refine blk_drewN ?_ _ | refine blk_drew ?_ | refine blk_alloc ?_ _)); exact BK402.out⟩, ⟨bw HB⟩⟩
   ·rw [if_neg c8] at H
    have c8b0 : decide (a2 < 0) = false := decide_eq_false c8
    clear c8
    (first | rw [c8b0] | (simp only [i64_w, i32_w]; rw [c8b0]) | skip)
    by_cases c9 : a2 > 500
    ·rw [if_pos c9] at H
     have c9b0 : decide (500 < a2) = true := decide_eq_true c9
     clear c9
     have H' := Aside0.mk H
     clear H
     go_wp2_with (first | (go_at_call 46; (with_reducible refine (environref03_wide.calls a1 false _ A6.out).mono ?_); rintro e w' ⟨rfl, ⟨nd, rfl⟩⟩; (try first | exact ⟨rfl, _, World.drewN_drewN _ _ _⟩ | exact ⟨rfl, _, Eq.trans (World.drewN_drewN _ _ _) (congrArg (World.drewN _) (Nat.add_assoc _ _ _))⟩)))
     repeat (go_quiet (first | (go_at_call 46; (with_reducible refine (environref03_wide.calls a1 false _ A6.out).mono ?_); rintro e w' ⟨rfl, ⟨nd, rfl⟩⟩; (try first | exact ⟨rfl, _, World.drewN_drewN _ _ _⟩ | exact ⟨rfl, _, Eq.trans (World.drewN_drewN _ _ _) (congrArg (World.drewN _) (Nat.add_assoc _ _ _))⟩))); try go_wp2_with (first | (go_at_call 46; (with_reducible refine (environref03_wide.calls a1 false _ A6.out).mono ?_); rintro e w' ⟨rfl, ⟨nd, rfl⟩⟩; (try first | exact ⟨rfl, _, World.drewN_drewN _ _ _⟩ | exact ⟨rfl, _, Eq.trans (World.drewN_drewN _ _ _) (congrArg (World.drewN _) (Nat.add_assoc _ _ _))⟩))))
     go_meet
     case rel => exact ⟨_, (true), (by first | rfl | (simp; done) | (simp [*]; done)), H', ⟨by first | omega | exact Nat.le_refl _⟩, ⟨by (with_reducible repeat (first | refine blk_drewN ?_ _ | refine blk_drew ?_ | refine blk_alloc ?_ _)); exact BK402.out⟩, ⟨bw HB⟩⟩
    ·rw [if_neg c9] at H
     have c9b0 : decide (500 < a2) = false := decide_eq_false c9
     clear c9
     replace H := Option.bind_eq_some_iff.mp H
     obtain ⟨t404, A100, H⟩ := H
     replace H : (environref03_Fixed.j0 k a1 a2 (!t404) a0_0 a0_1) = some r := H
     have A10 := Aside0.mk A100
     clear A100
     have H' := Aside0.mk H
     clear H
     go_wp2_with (first | (go_at_call 46; (with_reducible refine (environref03_wide.calls a1 false _ A6.out).mono ?_); rintro e w' ⟨rfl, ⟨nd, rfl⟩⟩; (try first | exact ⟨rfl, _, World.drewN_drewN _ _ _⟩ | exact ⟨rfl, _, Eq.trans (World.drewN_drewN _ _ _) (congrArg (World.drewN _) (Nat.add_assoc _ _ _))⟩); obtain ⟨hcz11_0, hcz11_1, hfz11_0, hfz11_1⟩ := cf2 BK402) | (go_at_call 24; (with_reducible refine (environref02_Valid.calls k 1 a0_0 a0_1 t404 _ A10.out).mono ?_); rintro e w12 ⟨rfl, hb⟩; replace BK402 := Aside0.mk (bb BK402 hb); replace HB := Aside0.mk (below_step (bw HB) hb); (try clear hb); (try clear hb2); (try clear hk); (try clear hi)))
     repeat (go_quiet (first | (go_at_call 46; (with_reducible refine (environref03_wide.calls a1 false _ A6.out).mono ?_); rintro e w' ⟨rfl, ⟨nd, rfl⟩⟩; (try first | exact ⟨rfl, _, World.drewN_drewN _ _ _⟩ | exact ⟨rfl, _, Eq.trans (World.drewN_drewN _ _ _) (congrArg (World.drewN _) (Nat.add_assoc _ _ _))⟩); obtain ⟨hcz11_0, hcz11_1, hfz11_0, hfz11_1⟩ := cf2 BK402) | (go_at_call 24; (with_reducible refine (environref02_Valid.calls k 1 a0_0 a0_1 t404 _ A10.out).mono ?_); rintro e w12 ⟨rfl, hb⟩; replace BK402 := Aside0.mk (bb BK402 hb); replace HB := Aside0.mk (below_step (bw HB) hb); (try clear hb); (try clear hb2); (try clear hk); (try clear hi))); try go_wp2_with (first | (go_at_call 46; (with_reducible refine (environref03_wide.calls a1 false _ A6.out).mono ?_); rintro e w' ⟨rfl, ⟨nd, rfl⟩⟩; (try first | exact ⟨rfl, _, World.drewN_drewN _ _ _⟩ | exact ⟨rfl, _, Eq.trans (World.drewN_drewN _ _ _) (congrArg (World.drewN _) (Nat.add_assoc _ _ _))⟩); obtain ⟨hcz11_0, hcz11_1, hfz11_0, hfz11_1⟩ := cf2 BK402) | (go_at_call 24; (with_reducible refine (environref02_Valid.calls k 1 a0_0 a0_1 t404 _ A10.out).mono ?_); rintro e w12 ⟨rfl, hb⟩; replace BK402 := Aside0.mk (bb BK402 hb); replace HB := Aside0.mk (below_step (bw HB) hb); (try clear hb); (try clear hb2); (try clear hk); (try clear hi))))
     go_meet
     case rel => exact ⟨_, (!t404), (by first | rfl | (simp; done) | (simp [*]; done)), H', ⟨by first | omega | exact Nat.le_refl _⟩, ⟨by (with_reducible repeat (first | refine blk_drewN ?_ _ | refine blk_drew ?_ | refine blk_alloc ?_ _)); exact BK402.out⟩, ⟨bw HB⟩⟩
 case rest =>
  clear HC4
  try clear c1
  try clear p2
  try clear c7
  try clear c8
  try clear c8b0
  try clear c9
  try clear c9b0
  try clear hcz11_0
  try clear hcz11_1
  try clear hfz11_0
  try clear hfz11_1
  obtain ⟨kq, x24_3, rfl, HA, HJ3, BK402, HB⟩ := hcut
  cases kq with
  | zero => exact absurd HA.out (by simp [environref03_Fixed.j0])
  | succ kj3 =>
   have H := HA.out
   clear HA
   simp only [environref03_Fixed.j0] at H
   by_cases c13 : x24_3 = true
   ·subst c13
    have H1 : (some (⟨#[42]⟩ : ByteArray)) = some r := by rw [if_pos rfl] at H; exact H
    clear H
    have H := H1
    clear H1
    obtain rfl := Option.some.inj H
    go_wp2
    repeat (go_quiet (fail); try go_wp2)
    go_ret
    exact ⟨by first | rfl | (simp [errW_none, errW_some] <;> rfl) | (simp [*, errW_none, errW_some] <;> rfl), bw HB⟩
   ·replace c13 := Bool.eq_false_iff.mpr c13
    subst c13
    have H1 : (environref03_Fixed.l0 kj3 a1 a2 a0_0 a0_1) = some r := by rw [if_neg (show ¬ (false = true) by decide)] at H; exact H
    clear H
    have H := H1
    clear H1
    have H' := Aside0.mk H
    clear H
    go_wp2
    repeat (go_quiet (fail); try go_wp2)
    go_loopg [7] kj3 (fun kq v7 w' => ∃ (x7_2 : Int), v7 = .int .i64 x7_2 ∧ Aside0 (environref03_Fixed.l0 kq a1 x7_2 a0_0 a0_1 = some r) ∧ Aside0 (kq ≤ kj3) ∧ Aside0 (w'.heap[gb402]? = some (.cells #[.int .i64 a0_0, .int .i64 a0_1] 23 (0, 0))) ∧ Aside0 (Below w.heap.size w w'))
    case atStart => exact ⟨(a2), (by first | rfl | (simp; done) | (simp [*]; done)), H', ⟨Nat.le_refl _⟩, ⟨by (with_reducible repeat (first | refine blk_drewN ?_ _ | refine blk_drew ?_ | refine blk_alloc ?_ _)); exact BK402.out⟩, ⟨bw HB⟩⟩
    case round =>
     clear H'
     try clear c1
     try clear p2
     try clear c7
     try clear c8
     try clear c8b0
     try clear c9
     try clear c9b0
     try clear c13
     try clear hcz11_0
     try clear hcz11_1
     try clear hfz11_0
     try clear hfz11_1
     try clear p2
     obtain ⟨x7_2, rfl, HA, HK2, BK402, HB⟩ := hrel
     cases gk with
     | zero => exact absurd HA.out (by simp [environref03_Fixed.l0])
     | succ k2 =>
      have H := HA.out
      clear HA
      simp only [environref03_Fixed.l0] at H
      by_cases c14 : x7_2 ≥ 0
      ·rw [if_pos c14] at H
       have c14b0 : decide (0 ≤ x7_2) = true := decide_eq_true c14
       clear c14
       replace H := Option.bind_eq_some_iff.mp H
       obtain ⟨t407, A150, H⟩ := H
       replace H : ((environref03_sign.f (decide (a0_0 < 0)) a1).bind fun t408 => (if t408.size + t407.size ≤ 9223372036854775807 then (if a1 = 0 then (environref03_Fixed.j2 k2 a1 x7_2 t407 (t408 ++ t407) false a0_0 a0_1) else ((environref03_size.f a1).bind fun t409 => (if ((t408 ++ t407).size : Int) = (wrap64 (t409 + 1)) then (if x7_2 > 0 then (if 0 < (t407.size : Int) then (if (bt t407 0) = 48 then (if 1 < (t407.size : Int) then (environref03_Fixed.j2 k2 a1 x7_2 t407 (t408 ++ t407) ((bt t407 1) == 46) a0_0 a0_1) else (none)) else (environref03_Fixed.j2 k2 a1 x7_2 t407 (t408 ++ t407) false a0_0 a0_1)) else (none)) else (environref03_Fixed.j2 k2 a1 x7_2 t407 (t408 ++ t407) false a0_0 a0_1)) else (environref03_Fixed.j2 k2 a1 x7_2 t407 (t408 ++ t407) false a0_0 a0_1)))) else (none))) = some r := H
       have A15 := Aside0.mk A150
       clear A150
       replace H := Option.bind_eq_some_iff.mp H
       obtain ⟨t408, A160, H⟩ := H
       replace H : (if t408.size + t407.size ≤ 9223372036854775807 then (if a1 = 0 then (environref03_Fixed.j2 k2 a1 x7_2 t407 (t408 ++ t407) false a0_0 a0_1) else ((environref03_size.f a1).bind fun t409 => (if ((t408 ++ t407).size : Int) = (wrap64 (t409 + 1)) then (if x7_2 > 0 then (if 0 < (t407.size : Int) then (if (bt t407 0) = 48 then (if 1 < (t407.size : Int) then (environref03_Fixed.j2 k2 a1 x7_2 t407 (t408 ++ t407) ((bt t407 1) == 46) a0_0 a0_1) else (none)) else (environref03_Fixed.j2 k2 a1 x7_2 t407 (t408 ++ t407) false a0_0 a0_1)) else (none)) else (environref03_Fixed.j2 k2 a1 x7_2 t407 (t408 ++ t407) false a0_0 a0_1)) else (environref03_Fixed.j2 k2 a1 x7_2 t407 (t408 ++ t407) false a0_0 a0_1)))) else (none)) = some r := H
       have A16 := Aside0.mk A160
       clear A160
       by_cases c17 : t408.size + t407.size ≤ 9223372036854775807
       ·rw [if_pos c17] at H
        have c17b0 := eq_true c17
        have c17b1 : decide (t408.size + t407.size ≤ 9223372036854775807) = true := decide_eq_true c17
        try have c17b2 : (9223372036854775807 < t408.size + t407.size) = False := eq_false (Nat.not_lt.2 c17)
        have HC18 := Aside0.mk H
        clear H
        have hcz19_0 : wr.cell? ⟨gb402, 0, none⟩ = some (.int .i64 a0_0) := (blk_cell BK402.out 0).trans rfl
        have hcz19_1 : wr.cell? ⟨gb402, 1, none⟩ = some (.int .i64 a0_1) := (blk_cell BK402.out 1).trans rfl
        have hfz19_0 := blk_frozen BK402.out 0
        have hfz19_1 := blk_frozen BK402.out 1
        go_upto_region 8 with (first | (go_at_call 51; (with_reducible refine (environref03_point.calls k2 a0_0 a0_1 x7_2 t407 _ A15.out).mono ?_); rintro e w20 ⟨rfl, hb⟩; replace BK402 := Aside0.mk (bb BK402 hb); replace HB := Aside0.mk (below_step (bw HB) hb); (try clear hb); (try clear hb2); (try clear hk); (try clear hi); obtain ⟨hcz21_0, hcz21_1, hfz21_0, hfz21_1⟩ := cf2 BK402) | (go_at_call 48; (with_reducible refine (environref03_sign.calls (decide (a0_0 < 0)) a1 t408 _ A16.out).mono ?_); rintro e w' ⟨rfl, ⟨nd, rfl⟩⟩; (try first | exact ⟨rfl, _, World.drewN_drewN _ _ _⟩ | exact ⟨rfl, _, Eq.trans (World.drewN_drewN _ _ _) (congrArg (World.drewN _) (Nat.add_assoc _ _ _))⟩)))
        repeat (go_quiet (first | (go_at_call 51; (with_reducible refine (environref03_point.calls k2 a0_0 a0_1 x7_2 t407 _ A15.out).mono ?_); rintro e w20 ⟨rfl, hb⟩; replace BK402 := Aside0.mk (bb BK402 hb); replace HB := Aside0.mk (below_step (bw HB) hb); (try clear hb); (try clear hb2); (try clear hk); (try clear hi); obtain ⟨hcz21_0, hcz21_1, hfz21_0, hfz21_1⟩ := cf2 BK402) | (go_at_call 48; (with_reducible refine (environref03_sign.calls (decide (a0_0 < 0)) a1 t408 _ A16.out).mono ?_); rintro e w' ⟨rfl, ⟨nd, rfl⟩⟩; (try first | exact ⟨rfl, _, World.drewN_drewN _ _ _⟩ | exact ⟨rfl, _, Eq.trans (World.drewN_drewN _ _ _) (congrArg (World.drewN _) (Nat.add_assoc _ _ _))⟩))); go_upto_region 8 with (first | (go_at_call 51; (with_reducible refine (environref03_point.calls k2 a0_0 a0_1 x7_2 t407 _ A15.out).mono ?_); rintro e w20 ⟨rfl, hb⟩; replace BK402 := Aside0.mk (bb BK402 hb); replace HB := Aside0.mk (below_step (bw HB) hb); (try clear hb); (try clear hb2); (try clear hk); (try clear hi); obtain ⟨hcz21_0, hcz21_1, hfz21_0, hfz21_1⟩ := cf2 BK402) | (go_at_call 48; (with_reducible refine (environref03_sign.calls (decide (a0_0 < 0)) a1 t408 _ A16.out).mono ?_); rintro e w' ⟨rfl, ⟨nd, rfl⟩⟩; (try first | exact ⟨rfl, _, World.drewN_drewN _ _ _⟩ | exact ⟨rfl, _, Eq.trans (World.drewN_drewN _ _ _) (congrArg (World.drewN _) (Nat.add_assoc _ _ _))⟩))))
        (try simp only [sx])
        go_cut [63] (fun v63 wc => ∃ (kq : Nat) (x63_17 : Bool), v63 = .bool x63_17 ∧ Aside0 (environref03_Fixed.j2 kq a1 x7_2 t407 (t408 ++ t407) x63_17 a0_0 a0_1 = some r) ∧ Aside0 (kq ≤ k2) ∧ Aside0 (wc.heap[gb402]? = some (.cells #[.int .i64 a0_0, .int .i64 a0_1] 23 (0, 0))) ∧ Aside0 (Below w.heap.size w wc))
        case first =>
         have H := HC18.out
         clear HC18
         by_cases c22 : a1 = 0
         ·rw [if_pos c22] at H
          have c22b0 : (a1 == 0) = true := beq_iff_eq.mpr c22
          have c22b1 : (a1 != 0) = false := bne_eq_false_iff_eq.mpr c22
          clear c22
          (first | rw [c22b0] | (simp only [i64_w, i32_w]; rw [c22b0]) | skip)
          have H' := Aside0.mk H
          clear H
          go_wp2
          repeat (go_quiet (fail); try go_wp2)
          go_meet
          case rel => exact ⟨_, (false), (by first | rfl | (simp; done) | (simp [*]; done)), H', ⟨by have := HJ3.out; have := HK2.out; first | omega | exact Nat.le_refl _⟩, ⟨by (with_reducible repeat (first | refine blk_drewN ?_ _ | refine blk_drew ?_ | refine blk_alloc ?_ _)); exact BK402.out⟩, ⟨bw HB⟩⟩
         ·rw [if_neg c22] at H
          have c22b0 : (a1 == 0) = false := beq_eq_false_iff_ne.mpr c22
          have c22b1 : (a1 != 0) = true := bne_iff_ne.mpr c22
          (first | rw [c22b0] | (simp only [i64_w, i32_w]; rw [c22b0]) | skip)
          replace H := Option.bind_eq_some_iff.mp H
          obtain ⟨t409, A230, H⟩ := H
          replace H : (if ((t408 ++ t407).size : Int) = (wrap64 (t409 + 1)) then (if x7_2 > 0 then (if 0 < (t407.size : Int) then (if (bt t407 0) = 48 then (if 1 < (t407.size : Int) then (environref03_Fixed.j2 k2 a1 x7_2 t407 (t408 ++ t407) ((bt t407 1) == 46) a0_0 a0_1) else (none)) else (environref03_Fixed.j2 k2 a1 x7_2 t407 (t408 ++ t407) false a0_0 a0_1)) else (none)) else (environref03_Fixed.j2 k2 a1 x7_2 t407 (t408 ++ t407) false a0_0 a0_1)) else (environref03_Fixed.j2 k2 a1 x7_2 t407 (t408 ++ t407) false a0_0 a0_1)) = some r := H
          have A23 := Aside0.mk A230
          clear A230
          by_cases c24 : ((t408 ++ t407).size : Int) = (wrap64 (t409 + 1))
          ·rw [if_pos c24] at H
           have c24b0 : (((t408 ++ t407).size : Int) == (wrap64 (t409 + 1))) = true := beq_iff_eq.mpr c24
           have c24b1 : (((t408 ++ t407).size : Int) != (wrap64 (t409 + 1))) = false := bne_eq_false_iff_eq.mpr c24
           have c24s : ((t408.size : Int) + (t407.size : Int) = (wrap64 (t409 + 1))) = True := eq_true (by rw [← c24, ByteArray.size_append]; exact (Int.natCast_add ..).symm)
           clear c24
           by_cases c25 : x7_2 > 0
           ·rw [if_pos c25] at H
            have c25b0 : decide (0 < x7_2) = true := decide_eq_true c25
            clear c25
            by_cases c26 : 0 < (t407.size : Int)
            ·rw [if_pos c26] at H
             have c26b0 : decide (0 < (t407.size : Int)) = true := decide_eq_true c26
             have c26b1 : decide (0 < t407.size) = true := decide_eq_true (by omega)
             clear c26
             by_cases c28 : (bt t407 0) = 48
             ·rw [if_pos c28] at H
              have c28b0 : ((bt t407 0) == 48) = true := beq_iff_eq.mpr c28
              have c28b1 : ((bt t407 0) != 48) = false := bne_eq_false_iff_eq.mpr c28
              clear c28
              by_cases c29 : 1 < (t407.size : Int)
              ·rw [if_pos c29] at H
               have c29b0 : decide (1 < (t407.size : Int)) = true := decide_eq_true c29
               have c29b1 : decide (1 < t407.size) = true := decide_eq_true (by omega)
               clear c29
               have H' := Aside0.mk H
               clear H
               go_wp2_with (first | (go_at_call 52; (with_reducible refine (environref03_size.calls a1 t409 _ A23.out).mono ?_); rintro e w' ⟨rfl, ⟨nd, rfl⟩⟩; (try first | exact ⟨rfl, _, World.drewN_drewN _ _ _⟩ | exact ⟨rfl, _, Eq.trans (World.drewN_drewN _ _ _) (congrArg (World.drewN _) (Nat.add_assoc _ _ _))⟩); have p27 : 0 ≤ (0 : Int) := (by omega); have q27 : 0 < t407.size := (by have : (0 : Int) < (t407.size : Int) := of_decide_eq_true (by first | (with_reducible assumption) | assumption); omega); have hx27 : ∀ h : 0 < t407.size, ((t407[0]'h).toNat : Int) = bt t407 0 := bt_at t407 0; clear p27; have qi27 : (0 < (t407.size : Int)) = True := eq_true (of_decide_eq_true (by first | (with_reducible assumption) | assumption)); replace q27 := eq_true q27; have p30 : 0 ≤ (1 : Int) := (by omega); have q30 : 1 < t407.size := (by have : (1 : Int) < (t407.size : Int) := of_decide_eq_true (by first | (with_reducible assumption) | assumption); omega); have hx30 : ∀ h : 1 < t407.size, ((t407[1]'h).toNat : Int) = bt t407 1 := bt_at t407 1; clear p30; have qi30 : (1 < (t407.size : Int)) = True := eq_true (of_decide_eq_true (by first | (with_reducible assumption) | assumption)); replace q30 := eq_true q30))
               repeat (go_quiet (first | (go_at_call 52; (with_reducible refine (environref03_size.calls a1 t409 _ A23.out).mono ?_); rintro e w' ⟨rfl, ⟨nd, rfl⟩⟩; (try first | exact ⟨rfl, _, World.drewN_drewN _ _ _⟩ | exact ⟨rfl, _, Eq.trans (World.drewN_drewN _ _ _) (congrArg (World.drewN _) (Nat.add_assoc _ _ _))⟩); have p27 : 0 ≤ (0 : Int) := (by omega); have q27 : 0 < t407.size := (by have : (0 : Int) < (t407.size : Int) := of_decide_eq_true (by first | (with_reducible assumption) | assumption); omega); have hx27 : ∀ h : 0 < t407.size, ((t407[0]'h).toNat : Int) = bt t407 0 := bt_at t407 0; clear p27; have qi27 : (0 < (t407.size : Int)) = True := eq_true (of_decide_eq_true (by first | (with_reducible assumption) | assumption)); replace q27 := eq_true q27; have p30 : 0 ≤ (1 : Int) := (by omega); have q30 : 1 < t407.size := (by have : (1 : Int) < (t407.size : Int) := of_decide_eq_true (by first | (with_reducible assumption) | assumption); omega); have hx30 : ∀ h : 1 < t407.size, ((t407[1]'h).toNat : Int) = bt t407 1 := bt_at t407 1; clear p30; have qi30 : (1 < (t407.size : Int)) = True := eq_true (of_decide_eq_true (by first | (with_reducible assumption) | assumption)); replace q30 := eq_true q30)); try go_wp2_with (first | (go_at_call 52; (with_reducible refine (environref03_size.calls a1 t409 _ A23.out).mono ?_); rintro e w' ⟨rfl, ⟨nd, rfl⟩⟩; (try first | exact ⟨rfl, _, World.drewN_drewN _ _ _⟩ | exact ⟨rfl, _, Eq.trans (World.drewN_drewN _ _ _) (congrArg (World.drewN _) (Nat.add_assoc _ _ _))⟩); have p27 : 0 ≤ (0 : Int) := (by omega); have q27 : 0 < t407.size := (by have : (0 : Int) < (t407.size : Int) := of_decide_eq_true (by first | (with_reducible assumption) | assumption); omega); have hx27 : ∀ h : 0 < t407.size, ((t407[0]'h).toNat : Int) = bt t407 0 := bt_at t407 0; clear p27; have qi27 : (0 < (t407.size : Int)) = True := eq_true (of_decide_eq_true (by first | (with_reducible assumption) | assumption)); replace q27 := eq_true q27; have p30 : 0 ≤ (1 : Int) := (by omega); have q30 : 1 < t407.size := (by have : (1 : Int) < (t407.size : Int) := of_decide_eq_true (by first | (with_reducible assumption) | assumption); omega); have hx30 : ∀ h : 1 < t407.size, ((t407[1]'h).toNat : Int) = bt t407 1 := bt_at t407 1; clear p30; have qi30 : (1 < (t407.size : Int)) = True := eq_true (of_decide_eq_true (by first | (with_reducible assumption) | assumption)); replace q30 := eq_true q30)))
               go_meet
               case rel => exact ⟨_, (((bt t407 1) == 46)), (by first | rfl | (simp; done) | (simp [*]; done)), H', ⟨by have := HJ3.out; have := HK2.out; first | omega | exact Nat.le_refl _⟩, ⟨by (with_reducible repeat (first | refine blk_drewN ?_ _ | refine blk_drew ?_ | refine blk_alloc ?_ _)); exact BK402.out⟩, ⟨bw HB⟩⟩
              ·rw [if_neg c29] at H
               exact absurd H (by simp)
             ·rw [if_neg c28] at H
              have c28b0 : ((bt t407 0) == 48) = false := beq_eq_false_iff_ne.mpr c28
              have c28b1 : ((bt t407 0) != 48) = true := bne_iff_ne.mpr c28
              have H' := Aside0.mk H
              clear H
              go_wp2_with (first | (go_at_call 52; (with_reducible refine (environref03_size.calls a1 t409 _ A23.out).mono ?_); rintro e w' ⟨rfl, ⟨nd, rfl⟩⟩; (try first | exact ⟨rfl, _, World.drewN_drewN _ _ _⟩ | exact ⟨rfl, _, Eq.trans (World.drewN_drewN _ _ _) (congrArg (World.drewN _) (Nat.add_assoc _ _ _))⟩); have p27 : 0 ≤ (0 : Int) := (by omega); have q27 : 0 < t407.size := (by have : (0 : Int) < (t407.size : Int) := of_decide_eq_true (by first | (with_reducible assumption) | assumption); omega); have hx27 : ∀ h : 0 < t407.size, ((t407[0]'h).toNat : Int) = bt t407 0 := bt_at t407 0; clear p27; have qi27 : (0 < (t407.size : Int)) = True := eq_true (of_decide_eq_true (by first | (with_reducible assumption) | assumption)); replace q27 := eq_true q27))
              repeat (go_quiet (first | (go_at_call 52; (with_reducible refine (environref03_size.calls a1 t409 _ A23.out).mono ?_); rintro e w' ⟨rfl, ⟨nd, rfl⟩⟩; (try first | exact ⟨rfl, _, World.drewN_drewN _ _ _⟩ | exact ⟨rfl, _, Eq.trans (World.drewN_drewN _ _ _) (congrArg (World.drewN _) (Nat.add_assoc _ _ _))⟩); have p27 : 0 ≤ (0 : Int) := (by omega); have q27 : 0 < t407.size := (by have : (0 : Int) < (t407.size : Int) := of_decide_eq_true (by first | (with_reducible assumption) | assumption); omega); have hx27 : ∀ h : 0 < t407.size, ((t407[0]'h).toNat : Int) = bt t407 0 := bt_at t407 0; clear p27; have qi27 : (0 < (t407.size : Int)) = True := eq_true (of_decide_eq_true (by first | (with_reducible assumption) | assumption)); replace q27 := eq_true q27)); try go_wp2_with (first | (go_at_call 52; (with_reducible refine (environref03_size.calls a1 t409 _ A23.out).mono ?_); rintro e w' ⟨rfl, ⟨nd, rfl⟩⟩; (try first | exact ⟨rfl, _, World.drewN_drewN _ _ _⟩ | exact ⟨rfl, _, Eq.trans (World.drewN_drewN _ _ _) (congrArg (World.drewN _) (Nat.add_assoc _ _ _))⟩); have p27 : 0 ≤ (0 : Int) := (by omega); have q27 : 0 < t407.size := (by have : (0 : Int) < (t407.size : Int) := of_decide_eq_true (by first | (with_reducible assumption) | assumption); omega); have hx27 : ∀ h : 0 < t407.size, ((t407[0]'h).toNat : Int) = bt t407 0 := bt_at t407 0; clear p27; have qi27 : (0 < (t407.size : Int)) = True := eq_true (of_decide_eq_true (by first | (with_reducible assumption) | assumption)); replace q27 := eq_true q27)))
              go_meet
              case rel => exact ⟨_, (false), (by first | rfl | (simp; done) | (simp [*]; done)), H', ⟨by have := HJ3.out; have := HK2.out; first | omega | exact Nat.le_refl _⟩, ⟨by (with_reducible repeat (first | refine blk_drewN ?_ _ | refine blk_drew ?_ | refine blk_alloc ?_ _)); exact BK402.out⟩, ⟨bw HB⟩⟩
            ·rw [if_neg c26] at H
             exact absurd H (by simp)
           ·rw [if_neg c25] at H
            have c25b0 : decide (0 < x7_2) = false := decide_eq_false c25
            clear c25
            have H' := Aside0.mk H
            clear H
            go_wp2_with (first | (go_at_call 52; (with_reducible refine (environref03_size.calls a1 t409 _ A23.out).mono ?_); rintro e w' ⟨rfl, ⟨nd, rfl⟩⟩; (try first | exact ⟨rfl, _, World.drewN_drewN _ _ _⟩ | exact ⟨rfl, _, Eq.trans (World.drewN_drewN _ _ _) (congrArg (World.drewN _) (Nat.add_assoc _ _ _))⟩)))
            repeat (go_quiet (first | (go_at_call 52; (with_reducible refine (environref03_size.calls a1 t409 _ A23.out).mono ?_); rintro e w' ⟨rfl, ⟨nd, rfl⟩⟩; (try first | exact ⟨rfl, _, World.drewN_drewN _ _ _⟩ | exact ⟨rfl, _, Eq.trans (World.drewN_drewN _ _ _) (congrArg (World.drewN _) (Nat.add_assoc _ _ _))⟩))); try go_wp2_with (first | (go_at_call 52; (with_reducible refine (environref03_size.calls a1 t409 _ A23.out).mono ?_); rintro e w' ⟨rfl, ⟨nd, rfl⟩⟩; (try first | exact ⟨rfl, _, World.drewN_drewN _ _ _⟩ | exact ⟨rfl, _, Eq.trans (World.drewN_drewN _ _ _) (congrArg (World.drewN _) (Nat.add_assoc _ _ _))⟩))))
            go_meet
            case rel => exact ⟨_, (false), (by first | rfl | (simp; done) | (simp [*]; done)), H', ⟨by have := HJ3.out; have := HK2.out; first | omega | exact Nat.le_refl _⟩, ⟨by (with_reducible repeat (first | refine blk_drewN ?_ _ | refine blk_drew ?_ | refine blk_alloc ?_ _)); exact BK402.out⟩, ⟨bw HB⟩⟩
          ·rw [if_neg c24] at H
           have c24b0 : (((t408 ++ t407).size : Int) == (wrap64 (t409 + 1))) = false := beq_eq_false_iff_ne.mpr c24
           have c24b1 : (((t408 ++ t407).size : Int) != (wrap64 (t409 + 1))) = true := bne_iff_ne.mpr c24
           have c24s : ((t408.size : Int) + (t407.size : Int) = (wrap64 (t409 + 1))) = False := eq_false (fun h => c24 (by rw [← h, ByteArray.size_append]; exact Int.natCast_add ..))
           have H' := Aside0.mk H
           clear H
           go_wp2_with (first | (go_at_call 52; (with_reducible refine (environref03_size.calls a1 t409 _ A23.out).mono ?_); rintro e w' ⟨rfl, ⟨nd, rfl⟩⟩; (try first | exact ⟨rfl, _, World.drewN_drewN _ _ _⟩ | exact ⟨rfl, _, Eq.trans (World.drewN_drewN _ _ _) (congrArg (World.drewN _) (Nat.add_assoc _ _ _))⟩)))
           repeat (go_quiet (first | (go_at_call 52; (with_reducible refine (environref03_size.calls a1 t409 _ A23.out).mono ?_); rintro e w' ⟨rfl, ⟨nd, rfl⟩⟩; (try first | exact ⟨rfl, _, World.drewN_drewN _ _ _⟩ | exact ⟨rfl, _, Eq.trans (World.drewN_drewN _ _ _) (congrArg (World.drewN _) (Nat.add_assoc _ _ _))⟩))); try go_wp2_with (first | (go_at_call 52; (with_reducible refine (environref03_size.calls a1 t409 _ A23.out).mono ?_); rintro e w' ⟨rfl, ⟨nd, rfl⟩⟩; (try first | exact ⟨rfl, _, World.drewN_drewN _ _ _⟩ | exact ⟨rfl, _, Eq.trans (World.drewN_drewN _ _ _) (congrArg (World.drewN _) (Nat.add_assoc _ _ _))⟩))))
           go_meet
           case rel => exact ⟨_, (false), (by first | rfl | (simp; done) | (simp [*]; done)), H', ⟨by have := HJ3.out; have := HK2.out; first | omega | exact Nat.le_refl _⟩, ⟨by (with_reducible repeat (first | refine blk_drewN ?_ _ | refine blk_drew ?_ | refine blk_alloc ?_ _)); exact BK402.out⟩, ⟨bw HB⟩⟩
        case rest =>
         clear HC18
         try clear c1
         try clear c2
         try clear p2
         try clear q2
         try clear hx2
         try clear qi2
         try clear p3
         try clear q3
         try clear hx3
         try clear qi3
         try clear p6
         try clear c7
         try clear c8
         try clear c8b0
         try clear c9
         try clear c9b0
         try clear c13
         try clear c14
         try clear c14b0
         try clear c17
         try clear c17b0
         try clear c17b1
         try clear c17b2
         try clear c22
         try clear c22b0
         try clear c22b1
         try clear c24
         try clear c24b0
         try clear c24b1
         try clear c25
         try clear c25b0
         try clear c26
         try clear c26b0
         try clear c26b1
         try clear p27
         try clear q27
         try clear hx27
         try clear qi27
         try clear c28
         try clear c28b0
         try clear c28b1
         try clear c29
         try clear c29b0
         try clear c29b1
         try clear p30
         try clear q30
         try clear hx30
         try clear qi30
         try clear hcz11_0
         try clear hcz11_1
         try clear hcz19_0
         try clear hcz19_1
         try clear hcz21_0
         try clear hcz21_1
         try clear hfz11_0
         try clear hfz11_1
         try clear hfz19_0
         try clear hfz19_1
         try clear hfz21_0
         try clear hfz21_1
         try clear p2
         try clear p27
         try clear p30
         try clear q27
         try clear q30
         obtain ⟨kq, x63_17, rfl, HA, HJ17, BK402, HB⟩ := hcut
         cases kq with
         | zero => exact absurd HA.out (by simp [environref03_Fixed.j2])
         | succ kj17 =>
          have H := HA.out
          clear HA
          simp only [environref03_Fixed.j2] at H
          have HC31 := Aside0.mk H
          clear H
          go_upto_if 63 with (fail)
          repeat (go_quiet (fail); go_upto_if 63 with (fail))
          go_cut [9] (fun v9 wc => ∃ (kq : Nat) (x9_30 : ByteArray), v9 = .string x9_30 ∧ Aside0 (environref03_Fixed.j3 kq a1 x7_2 x9_30 a0_0 a0_1 = some r) ∧ Aside0 (kq ≤ kj17) ∧ Aside0 (wc.heap[gb402]? = some (.cells #[.int .i64 a0_0, .int .i64 a0_1] 23 (0, 0))) ∧ Aside0 (Below w.heap.size w wc))
          case first =>
           have H := HC31.out
           clear HC31
           by_cases c32 : x63_17 = true
           ·subst c32
            have H1 : ((environref03_sign.f (decide (a0_0 < 0)) a1).bind fun t410 => (if 1 ≤ (t407.size : Int) then (if t410.size + (t407.extract 1 t407.size).size ≤ 9223372036854775807 then (environref03_Fixed.j3 kj17 a1 x7_2 (t410 ++ (t407.extract 1 t407.size)) a0_0 a0_1) else (none)) else (none))) = some r := by rw [if_pos rfl] at H; exact H
            clear H
            have H := H1
            clear H1
            replace H := Option.bind_eq_some_iff.mp H
            obtain ⟨t410, A330, H⟩ := H
            replace H : (if 1 ≤ (t407.size : Int) then (if t410.size + (t407.extract 1 t407.size).size ≤ 9223372036854775807 then (environref03_Fixed.j3 kj17 a1 x7_2 (t410 ++ (t407.extract 1 t407.size)) a0_0 a0_1) else (none)) else (none)) = some r := H
            have A33 := Aside0.mk A330
            clear A330
            by_cases c34 : 1 ≤ (t407.size : Int)
            ·rw [if_pos c34] at H
             have c34b0 := eq_true c34
             have c34b1 : decide (1 ≤ (t407.size : Int)) = true := decide_eq_true c34
             clear c34
             by_cases c35 : t410.size + (t407.extract 1 t407.size).size ≤ 9223372036854775807
             ·rw [if_pos c35] at H
              have c35b0 := eq_true c35
              have c35b1 : decide (t410.size + (t407.extract 1 t407.size).size ≤ 9223372036854775807) = true := decide_eq_true c35
              try have c35b2 : (9223372036854775807 < t410.size + (t407.extract 1 t407.size).size) = False := eq_false (Nat.not_lt.2 c35)
              have H' := Aside0.mk H
              clear H
              have hcz36_0 : wc.cell? ⟨gb402, 0, none⟩ = some (.int .i64 a0_0) := (blk_cell BK402.out 0).trans rfl
              have hcz36_1 : wc.cell? ⟨gb402, 1, none⟩ = some (.int .i64 a0_1) := (blk_cell BK402.out 1).trans rfl
              have hfz36_0 := blk_frozen BK402.out 0
              have hfz36_1 := blk_frozen BK402.out 1
              go_wp2_with (first | (go_at_call 48; (with_reducible refine (environref03_sign.calls (decide (a0_0 < 0)) a1 t410 _ A33.out).mono ?_); rintro e w' ⟨rfl, ⟨nd, rfl⟩⟩; (try first | exact ⟨rfl, _, World.drewN_drewN _ _ _⟩ | exact ⟨rfl, _, Eq.trans (World.drewN_drewN _ _ _) (congrArg (World.drewN _) (Nat.add_assoc _ _ _))⟩)))
              repeat (go_quiet (first | (go_at_call 48; (with_reducible refine (environref03_sign.calls (decide (a0_0 < 0)) a1 t410 _ A33.out).mono ?_); rintro e w' ⟨rfl, ⟨nd, rfl⟩⟩; (try first | exact ⟨rfl, _, World.drewN_drewN _ _ _⟩ | exact ⟨rfl, _, Eq.trans (World.drewN_drewN _ _ _) (congrArg (World.drewN _) (Nat.add_assoc _ _ _))⟩))); try go_wp2_with (first | (go_at_call 48; (with_reducible refine (environref03_sign.calls (decide (a0_0 < 0)) a1 t410 _ A33.out).mono ?_); rintro e w' ⟨rfl, ⟨nd, rfl⟩⟩; (try first | exact ⟨rfl, _, World.drewN_drewN _ _ _⟩ | exact ⟨rfl, _, Eq.trans (World.drewN_drewN _ _ _) (congrArg (World.drewN _) (Nat.add_assoc _ _ _))⟩))))
              go_meet
              case rel => exact ⟨_, (t410 ++ (t407.extract 1 t407.size)), (by first | rfl | (simp; done) | (simp [*]; done)), H', ⟨by have := HJ3.out; have := HK2.out; have := HJ17.out; first | omega | exact Nat.le_refl _⟩, ⟨by (with_reducible repeat (first | refine blk_drewN ?_ _ | refine blk_drew ?_ | refine blk_alloc ?_ _)); exact BK402.out⟩, ⟨bw HB⟩⟩
             ·rw [if_neg c35] at H
              exact absurd H (by simp)
            ·rw [if_neg c34] at H
             exact absurd H (by simp)
           ·replace c32 := Bool.eq_false_iff.mpr c32
            subst c32
            have H1 : (environref03_Fixed.j3 kj17 a1 x7_2 (t408 ++ t407) a0_0 a0_1) = some r := by rw [if_neg (show ¬ (false = true) by decide)] at H; exact H
            clear H
            have H := H1
            clear H1
            have H' := Aside0.mk H
            clear H
            go_wp2
            repeat (go_quiet (fail); try go_wp2)
            go_meet
            case rel => exact ⟨_, ((t408 ++ t407)), (by first | rfl | (simp; done) | (simp [*]; done)), H', ⟨by have := HJ3.out; have := HK2.out; have := HJ17.out; first | omega | exact Nat.le_refl _⟩, ⟨by (with_reducible repeat (first | refine blk_drewN ?_ _ | refine blk_drew ?_ | refine blk_alloc ?_ _)); exact BK402.out⟩, ⟨bw HB⟩⟩
          case rest =>
           clear HC31
           try clear c1
           try clear c2
           try clear p2
           try clear q2
           try clear hx2
           try clear qi2
           try clear c3
           try clear p3
           try clear q3
           try clear hx3
           try clear qi3
           try clear p6
           try clear c7
           try clear c8
           try clear c8b0
           try clear c9
           try clear c9b0
           try clear c13
           try clear c14
           try clear c14b0
           try clear c17
           try clear c17b0
           try clear c17b1
           try clear c17b2
           try clear c22
           try clear c22b0
           try clear c22b1
           try clear c24
           try clear c24b0
           try clear c24b1
           try clear c25
           try clear c25b0
           try clear c26
           try clear c26b0
           try clear c26b1
           try clear p27
           try clear q27
           try clear hx27
           try clear qi27
           try clear c28
           try clear c28b0
           try clear c28b1
           try clear c29
           try clear c29b0
           try clear c29b1
           try clear p30
           try clear q30
           try clear hx30
           try clear qi30
           try clear c32
           try clear c34
           try clear c34b0
           try clear c34b1
           try clear c35
           try clear c35b0
           try clear c35b1
           try clear c35b2
           try clear hcz11_0
           try clear hcz11_1
           try clear hcz19_0
           try clear hcz19_1
           try clear hcz21_0
           try clear hcz21_1
           try clear hcz36_0
           try clear hcz36_1
           try clear hfz11_0
           try clear hfz11_1
           try clear hfz19_0
           try clear hfz19_1
           try clear hfz21_0
           try clear hfz21_1
           try clear hfz36_0
           try clear hfz36_1
           try clear p2
           try clear p27
           try clear p3
           try clear p30
           try clear p6
           try clear q2
           try clear q27
           try clear q3
           try clear q30
           obtain ⟨kq, x9_30, rfl, HA, HJ30, BK402, HB⟩ := hcut
           cases kq with
           | zero => exact absurd HA.out (by simp [environref03_Fixed.j3])
           | succ kj30 =>
            have H := HA.out
            clear HA
            simp only [environref03_Fixed.j3] at H
            by_cases c37 : a1 = 0
            ·rw [if_pos c37] at H
             have c37b0 : (a1 == 0) = true := beq_iff_eq.mpr c37
             have c37b1 : (a1 != 0) = false := bne_eq_false_iff_eq.mpr c37
             clear c37
             replace H := Option.bind_eq_some_iff.mp H
             obtain ⟨t411, A380, H⟩ := H
             replace H : (some t411) = some r := H
             have A38 := Aside0.mk A380
             clear A380
             obtain rfl := Option.some.inj H
             go_wp2_with (first | (go_at_call 47; (with_reducible refine (environref03_fill.calls kj30 x9_30 a1 t411 _ A38.out).mono ?_); rintro e w39 ⟨rfl, hb⟩; replace BK402 := Aside0.mk (bb BK402 hb); replace HB := Aside0.mk (below_step (bw HB) hb); (try clear hb); (try clear hb2); (try clear hk); (try clear hi)))
             repeat (go_quiet (first | (go_at_call 47; (with_reducible refine (environref03_fill.calls kj30 x9_30 a1 t411 _ A38.out).mono ?_); rintro e w39 ⟨rfl, hb⟩; replace BK402 := Aside0.mk (bb BK402 hb); replace HB := Aside0.mk (below_step (bw HB) hb); (try clear hb); (try clear hb2); (try clear hk); (try clear hi))); try go_wp2_with (first | (go_at_call 47; (with_reducible refine (environref03_fill.calls kj30 x9_30 a1 t411 _ A38.out).mono ?_); rintro e w39 ⟨rfl, hb⟩; replace BK402 := Aside0.mk (bb BK402 hb); replace HB := Aside0.mk (below_step (bw HB) hb); (try clear hb); (try clear hb2); (try clear hk); (try clear hi))))
             go_ret
             exact ⟨by first | rfl | (simp [errW_none, errW_some] <;> rfl) | (simp [*, errW_none, errW_some] <;> rfl), bw HB⟩
            ·rw [if_neg c37] at H
             have c37b0 : (a1 == 0) = false := beq_eq_false_iff_ne.mpr c37
             have c37b1 : (a1 != 0) = true := bne_iff_ne.mpr c37
             replace H := Option.bind_eq_some_iff.mp H
             obtain ⟨t412, A400, H⟩ := H
             replace H : (if (x9_30.size : Int) ≤ t412 then ((environref03_fill.f kj30 x9_30 a1).bind fun t413 => (some t413)) else (environref03_Fixed.l0 kj30 a1 (wrap64 (x7_2 - 1)) a0_0 a0_1)) = some r := H
             have A40 := Aside0.mk A400
             clear A400
             by_cases c41 : (x9_30.size : Int) ≤ t412
             ·rw [if_pos c41] at H
              have c41b0 : decide ((x9_30.size : Int) ≤ t412) = true := decide_eq_true c41
              clear c41
              replace H := Option.bind_eq_some_iff.mp H
              obtain ⟨t413, A420, H⟩ := H
              replace H : (some t413) = some r := H
              have A42 := Aside0.mk A420
              clear A420
              obtain rfl := Option.some.inj H
              go_wp2_with (first | (go_at_call 52; (with_reducible refine (environref03_size.calls a1 t412 _ A40.out).mono ?_); rintro e w' ⟨rfl, ⟨nd, rfl⟩⟩; (try first | exact ⟨rfl, _, World.drewN_drewN _ _ _⟩ | exact ⟨rfl, _, Eq.trans (World.drewN_drewN _ _ _) (congrArg (World.drewN _) (Nat.add_assoc _ _ _))⟩)) | (go_at_call 47; (with_reducible refine (environref03_fill.calls kj30 x9_30 a1 t413 _ A42.out).mono ?_); rintro e w43 ⟨rfl, hb⟩; replace BK402 := Aside0.mk (bb BK402 hb); replace HB := Aside0.mk (below_step (bw HB) hb); (try clear hb); (try clear hb2); (try clear hk); (try clear hi)))
              repeat (go_quiet (first | (go_at_call 52; (with_reducible refine (environref03_size.calls a1 t412 _ A40.out).mono ?_); rintro e w' ⟨rfl, ⟨nd, rfl⟩⟩; (try first | exact ⟨rfl, _, World.drewN_drewN _ _ _⟩ | exact ⟨rfl, _, Eq.trans (World.drewN_drewN _ _ _) (congrArg (World.drewN _) (Nat.add_assoc _ _ _))⟩)) | (go_at_call 47; (with_reducible refine (environref03_fill.calls kj30 x9_30 a1 t413 _ A42.out).mono ?_); rintro e w43 ⟨rfl, hb⟩; replace BK402 := Aside0.mk (bb BK402 hb); replace HB := Aside0.mk (below_step (bw HB) hb); (try clear hb); (try clear hb2); (try clear hk); (try clear hi))); try go_wp2_with (first | (go_at_call 52; (with_reducible refine (environref03_size.calls a1 t412 _ A40.out).mono ?_); rintro e w' ⟨rfl, ⟨nd, rfl⟩⟩; (try first | exact ⟨rfl, _, World.drewN_drewN _ _ _⟩ | exact ⟨rfl, _, Eq.trans (World.drewN_drewN _ _ _) (congrArg (World.drewN _) (Nat.add_assoc _ _ _))⟩)) | (go_at_call 47; (with_reducible refine (environref03_fill.calls kj30 x9_30 a1 t413 _ A42.out).mono ?_); rintro e w43 ⟨rfl, hb⟩; replace BK402 := Aside0.mk (bb BK402 hb); replace HB := Aside0.mk (below_step (bw HB) hb); (try clear hb); (try clear hb2); (try clear hk); (try clear hi))))
              go_ret
              exact ⟨by first | rfl | (simp [errW_none, errW_some] <;> rfl) | (simp [*, errW_none, errW_some] <;> rfl), bw HB⟩
             ·rw [if_neg c41] at H
              have c41b0 : decide ((x9_30.size : Int) ≤ t412) = false := decide_eq_false c41
              clear c41
              have H' := Aside0.mk H
              clear H
              go_wp2_with (first | (go_at_call 52; (with_reducible refine (environref03_size.calls a1 t412 _ A40.out).mono ?_); rintro e w' ⟨rfl, ⟨nd, rfl⟩⟩; (try first | exact ⟨rfl, _, World.drewN_drewN _ _ _⟩ | exact ⟨rfl, _, Eq.trans (World.drewN_drewN _ _ _) (congrArg (World.drewN _) (Nat.add_assoc _ _ _))⟩)))
              repeat (go_quiet (first | (go_at_call 52; (with_reducible refine (environref03_size.calls a1 t412 _ A40.out).mono ?_); rintro e w' ⟨rfl, ⟨nd, rfl⟩⟩; (try first | exact ⟨rfl, _, World.drewN_drewN _ _ _⟩ | exact ⟨rfl, _, Eq.trans (World.drewN_drewN _ _ _) (congrArg (World.drewN _) (Nat.add_assoc _ _ _))⟩))); try go_wp2_with (first | (go_at_call 52; (with_reducible refine (environref03_size.calls a1 t412 _ A40.out).mono ?_); rintro e w' ⟨rfl, ⟨nd, rfl⟩⟩; (try first | exact ⟨rfl, _, World.drewN_drewN _ _ _⟩ | exact ⟨rfl, _, Eq.trans (World.drewN_drewN _ _ _) (congrArg (World.drewN _) (Nat.add_assoc _ _ _))⟩))))
              go_roundg kj30
              case measure => have := HJ3.out; have := HK2.out; have := HJ17.out; have := HJ30.out; omega
              case rel => exact ⟨(wrap64 (x7_2 - 1)), (by first | rfl | (simp; done) | (simp [*]; done)), H', ⟨by have := HJ3.out; have := HK2.out; have := HJ17.out; have := HJ30.out; omega⟩, ⟨by (with_reducible repeat (first | refine blk_drewN ?_ _ | refine blk_drew ?_ | refine blk_alloc ?_ _)); exact BK402.out⟩, ⟨bw HB⟩⟩
       ·rw [if_neg c17] at H
        exact absurd H (by simp)
      ·rw [if_neg c14] at H
       have c14b0 : decide (0 ≤ x7_2) = false := decide_eq_false c14
       clear c14
       replace H := Option.bind_eq_some_iff.mp H
       obtain ⟨t405, A440, H⟩ := H
       replace H : ((environref03_repeat.f k2 42 t405).bind fun t406 => (some t406)) = some r := H
       have A44 := Aside0.mk A440
       clear A440
       replace H := Option.bind_eq_some_iff.mp H
       obtain ⟨t406, A450, H⟩ := H
       replace H : (some t406) = some r := H
       have A45 := Aside0.mk A450
       clear A450
       obtain rfl := Option.some.inj H
       go_wp2_with (first | (go_at_call 52; (with_reducible refine (environref03_size.calls a1 t405 _ A44.out).mono ?_); rintro e w' ⟨rfl, ⟨nd, rfl⟩⟩; (try first | exact ⟨rfl, _, World.drewN_drewN _ _ _⟩ | exact ⟨rfl, _, Eq.trans (World.drewN_drewN _ _ _) (congrArg (World.drewN _) (Nat.add_assoc _ _ _))⟩)) | (go_at_call 53; (with_reducible refine (environref03_repeat.calls k2 42 t405 t406 _ A45.out).mono ?_); rintro e w46 ⟨rfl, hb⟩; replace BK402 := Aside0.mk (bb BK402 hb); replace HB := Aside0.mk (below_step (bw HB) hb); (try clear hb); (try clear hb2); (try clear hk); (try clear hi)))
       repeat (go_quiet (first | (go_at_call 52; (with_reducible refine (environref03_size.calls a1 t405 _ A44.out).mono ?_); rintro e w' ⟨rfl, ⟨nd, rfl⟩⟩; (try first | exact ⟨rfl, _, World.drewN_drewN _ _ _⟩ | exact ⟨rfl, _, Eq.trans (World.drewN_drewN _ _ _) (congrArg (World.drewN _) (Nat.add_assoc _ _ _))⟩)) | (go_at_call 53; (with_reducible refine (environref03_repeat.calls k2 42 t405 t406 _ A45.out).mono ?_); rintro e w46 ⟨rfl, hb⟩; replace BK402 := Aside0.mk (bb BK402 hb); replace HB := Aside0.mk (below_step (bw HB) hb); (try clear hb); (try clear hb2); (try clear hk); (try clear hi))); try go_wp2_with (first | (go_at_call 52; (with_reducible refine (environref03_size.calls a1 t405 _ A44.out).mono ?_); rintro e w' ⟨rfl, ⟨nd, rfl⟩⟩; (try first | exact ⟨rfl, _, World.drewN_drewN _ _ _⟩ | exact ⟨rfl, _, Eq.trans (World.drewN_drewN _ _ _) (congrArg (World.drewN _) (Nat.add_assoc _ _ _))⟩)) | (go_at_call 53; (with_reducible refine (environref03_repeat.calls k2 42 t405 t406 _ A45.out).mono ?_); rintro e w46 ⟨rfl, hb⟩; replace BK402 := Aside0.mk (bb BK402 hb); replace HB := Aside0.mk (below_step (bw HB) hb); (try clear hb); (try clear hb2); (try clear hk); (try clear hi))))
       go_ret
       exact ⟨by first | rfl | (simp [errW_none, errW_some] <;> rfl) | (simp [*, errW_none, errW_some] <;> rfl), bw HB⟩
end Go.Proofs.YtckbmniiecbalaaGreatDoor.PT
